import PyProof.Rows.All
import HandS.ForMost
import HandS.Wide
import HandS.WideBits
import HandS.IsInst
import HandS.Style
import HandS.Flow
import HandS.SortInts
import HandS.Deep
import HandS.DictSub
import PyProof.StrLawsRepr
import PyProof.FitsInt
import HandS.Ends
import PySem.Challenge.RW_saidbydigits_k02_names_places_and_bases
set_option Elab.async false
set_option linter.all false
set_option maxRecDepth 100000
set_option maxHeartbeats 4000000
/-! A layer of data over the hand layer: environments of plain data, the heap told once. -/
namespace DL
open PySem PySem.Spec PyProof.Rows L2

abbrev D := PyData
def kD : Key → D
  | .inl i => .int i
  | .inr x => .str x

/-! ### what a value denotes where nothing of it changes any more -/
mutual
inductive Fz (K : PySem.W.Frag) (F : Hp) : V → D → Prop
  | non : Fz K F .non .none
  | bl (b : Bool) : Fz K F (.bl b) (.bool b)
  | int (i : Int) : Fz K F (.int i) (.int i)
  | str (x : Str) : Fz K F (.str x) (.str x)
  | lst {a : Addr} {xs : List V} {ds : List D} : F a = some (.lst xs) → FzA K F xs ds → Fz K F (.ref a) (.list ds)
  | tup {a : Addr} {xs : List V} {ds : List D} : SqT K F a xs → FzA K F xs ds → Fz K F (.ref a) (.tuple ds)
  | dct {a : Addr} {o : Obj} {kvs : List (Key × V)} {ds : List D} : F a = some (.frz o (.dK kvs)) → FzA K F (kvs.map (·.2)) ds → Fz K F (.ref a) (.dict ((kvs.map fun p => kD p.1).zip ds))
inductive FzA (K : PySem.W.Frag) (F : Hp) : List V → List D → Prop
  | nil : FzA K F [] []
  | cons {v : V} {d : D} {vs : List V} {ds : List D} : Fz K F v d → FzA K F vs ds → FzA K F (v :: vs) (d :: ds)
end

theorem same_rd {F F' : Hp} {a : Addr} {u : HO} (e : Same F F') (h : Rd F a u) : Rd F' a u := by
  rcases h with h | ⟨o, h⟩
  · exact .inl (e _ _ h)
  · exact .inr ⟨o, e _ _ h⟩
theorem same_l {K : PySem.W.Frag} {F F' : Hp} {a : Addr} {xs : List V} (e : Same F F') (h : SqL K F a xs) : SqL K F' a xs := e.seq h
theorem same_t {K : PySem.W.Frag} {F F' : Hp} {a : Addr} {xs : List V} (e : Same F F') (h : SqT K F a xs) : SqT K F' a xs := by
  rcases h with h | h
  · exact .inl (same_rd e h)
  · exact .inr h
mutual
theorem Fz.mono {K : PySem.W.Frag} {F F' : Hp} (e : Same F F') : ∀ {v : V} {d : D}, Fz K F v d → Fz K F' v d
  | _, _, .non => .non
  | _, _, .bl b => .bl b
  | _, _, .int i => .int i
  | _, _, .str x => .str x
  | _, _, .lst h t => .lst (e _ _ h) (FzA.mono e t)
  | _, _, .tup h t => .tup (same_t e h) (FzA.mono e t)
  | _, _, .dct h t => .dct (e _ _ h) (FzA.mono e t)
theorem FzA.mono {K : PySem.W.Frag} {F F' : Hp} (e : Same F F') : ∀ {vs : List V} {ds : List D}, FzA K F vs ds → FzA K F' vs ds
  | _, _, .nil => .nil
  | _, _, .cons h t => .cons (Fz.mono e h) (FzA.mono e t)
end
theorem FzA.length {K : PySem.W.Frag} {F : Hp} : ∀ {vs : List V} {ds : List D}, FzA K F vs ds → vs.length = ds.length
  | _, _, .nil => rfl
  | _, _, .cons _ t => congrArg (· + 1) t.length
theorem FzA.append {K : PySem.W.Frag} {F : Hp} : ∀ {vs ws : List V} {ds es : List D}, FzA K F vs ds → FzA K F ws es → FzA K F (vs ++ ws) (ds ++ es)
  | _, _, _, _, .nil, h => h
  | _, _, _, _, .cons a t, h => .cons a (t.append h)
theorem FzA.one {K : PySem.W.Frag} {F : Hp} {v : V} {d : D} (h : Fz K F v d) : FzA K F [v] [d] := .cons h .nil
theorem FzA.get {K : PySem.W.Frag} {F : Hp} : ∀ {vs : List V} {ds : List D} {i : Nat} {d : D}, FzA K F vs ds → ds[i]? = some d → ∃ v, vs[i]? = some v ∧ Fz K F v d
  | _, _, _, _, .nil, e => by simp at e
  | _, _, 0, _, .cons h _, e => by simp at e; subst e; exact ⟨_, rfl, h⟩
  | _, _, i + 1, d, .cons _ t, e => by
    obtain ⟨v, h1, h2⟩ := FzA.get (i := i) (d := d) t (by simpa using e)
    exact ⟨v, by simpa using h1, h2⟩
theorem FzA.getV {K : PySem.W.Frag} {F : Hp} : ∀ {vs : List V} {ds : List D} {i : Nat} {v : V}, FzA K F vs ds → vs[i]? = some v → ∃ d, ds[i]? = some d ∧ Fz K F v d
  | _, _, _, _, .nil, e => by simp at e
  | _, _, 0, _, .cons h _, e => by simp at e; subst e; exact ⟨_, rfl, h⟩
  | _, _, i + 1, d, .cons _ t, e => by
    obtain ⟨v, h1, h2⟩ := FzA.getV (i := i) t (by simpa using e)
    exact ⟨v, by simpa using h1, h2⟩
theorem FzA.take {K : PySem.W.Frag} {F : Hp} : ∀ {vs : List V} {ds : List D} (n : Nat), FzA K F vs ds → FzA K F (vs.take n) (ds.take n)
  | _, _, 0, _ => .nil
  | _, _, _ + 1, .nil => .nil
  | _, _, n + 1, .cons h t => .cons h (t.take n)
theorem FzA.drop {K : PySem.W.Frag} {F : Hp} : ∀ {vs : List V} {ds : List D} (n : Nat), FzA K F vs ds → FzA K F (vs.drop n) (ds.drop n)
  | _, _, 0, h => h
  | _, _, _ + 1, .nil => .nil
  | _, _, n + 1, .cons _ t => t.drop n
theorem FzA.reverse {K : PySem.W.Frag} {F : Hp} : ∀ {vs : List V} {ds : List D}, FzA K F vs ds → FzA K F vs.reverse ds.reverse
  | _, _, .nil => .nil
  | _, _, .cons h t => by
    rw [List.reverse_cons, List.reverse_cons]
    exact t.reverse.append (.one h)
theorem FzA.inj {K : PySem.W.Frag} {F : Hp} {vs : List V} {ds : List D} {v : V} (h : FzA K F vs ds) (hv : v ∈ vs) : ∃ d, d ∈ ds ∧ Fz K F v d := by
  obtain ⟨i, hi, e⟩ := List.mem_iff_getElem.mp hv
  obtain ⟨d, h1, h2⟩ := h.getV (i := i) (v := v) (by rw [List.getElem?_eq_getElem hi, e])
  exact ⟨d, List.mem_of_getElem? h1, h2⟩

theorem fz_ints {K : PySem.W.Frag} {F : Hp} : ∀ (vs : List V) (ns : List Int), FzA K F vs (ns.map PyData.int) → vs = ns.map V.int
  | [], [], _ => rfl
  | _ :: _, n :: ns, .cons h t => by
    cases h
    rw [fz_ints _ ns t]
    rfl
theorem fz_strs {K : PySem.W.Frag} {F : Hp} : ∀ (vs : List V) (ns : List Str), FzA K F vs (ns.map PyData.str) → vs = ns.map V.str
  | [], [], _ => rfl
  | _ :: _, n :: ns, .cons h t => by
    cases h
    rw [fz_strs _ ns t]
    rfl
theorem fz_bools {K : PySem.W.Frag} {F : Hp} : ∀ (vs : List V) (ns : List Bool), FzA K F vs (ns.map PyData.bool) → vs = ns.map V.bl
  | [], [], _ => rfl
  | _ :: _, n :: ns, .cons h t => by
    cases h
    rw [fz_bools _ ns t]
    rfl
theorem ints_fz {K : PySem.W.Frag} {F : Hp} : ∀ (ns : List Int), FzA K F (ns.map V.int) (ns.map PyData.int)
  | [] => .nil
  | n :: ns => .cons (.int n) (ints_fz ns)
theorem strs_fz {K : PySem.W.Frag} {F : Hp} : ∀ (ns : List Str), FzA K F (ns.map V.str) (ns.map PyData.str)
  | [] => .nil
  | n :: ns => .cons (.str n) (strs_fz ns)
theorem bools_fz {K : PySem.W.Frag} {F : Hp} : ∀ (ns : List Bool), FzA K F (ns.map V.bl) (ns.map PyData.bool)
  | [] => .nil
  | n :: ns => .cons (.bl n) (bools_fz ns)

/-! ### environments, worlds -/
/-- what stands in a slot: data that no longer changes; a list of our own; the law's generator -/
inductive EV where
  | fz (d : D) | ol (ds : List D) | gen | scr (ns : List Int)
/-- what an expression gives: data; a new list; a slot's own list, borrowed; the generator -/
inductive RV where
  | fz (d : D) | tmp (ds : List D) | bor (ds : List D) | gen | scr (ns : List Int)
abbrev Rho := List (Option EV)
structure Wd where
  G : List V → Nat → Prop
  g : Option Addr
  B : Hp
  F0 : Hp

def GenAt (W : Wd) (F H : Hp) (n : Nat) : Prop := ∀ p, W.g = some p → F p = none ∧ ∃ gs, H p = some (.lst gs) ∧ W.G gs n
def Sl (K : PySem.W.Frag) (W : Wd) (F H : Hp) (v : V) : EV → Prop
  | .fz d => Fz K F v d
  | .ol ds => ∃ p vs, v = .ref p ∧ H p = some (.lst vs) ∧ F p = none ∧ W.B p = none ∧ W.g ≠ some p ∧ FzA K F vs ds
  | .gen => ∃ p, v = .ref p ∧ W.g = some p
  | .scr ns => ∃ a, v = .ref a ∧ SqL K F a (ns.map V.int)
structure Mo (K : PySem.W.Frag) (W : Wd) (F : Hp) (ρ : Rho) (n : Nat) (σ : L2.St) (H : Hp) : Prop where
  ln : ρ.length ≤ σ.length
  f0 : Same W.F0 F
  fh : Same F H
  bh : ∀ a o, W.B a = some o → W.g ≠ some a → H a = some o
  bs : ∀ a, W.B a ≠ none → H a ≠ none
  fn : ∀ a, W.B a ≠ none → W.F0 a = none → F a = none
  gn : GenAt W F H n
  sl : ∀ (i : Nat) (e : EV), ρ[i]? = some (some e) → ∃ v, σ[i]? = some (some v) ∧ Sl K W F H v e
  dj : ∀ (i j : Nat) (di dj : List D) (p : Addr), ρ[i]? = some (some (.ol di)) → ρ[j]? = some (some (.ol dj)) → σ[i]? = some (some (.ref p)) → σ[j]? = some (some (.ref p)) → i = j
structure Ext (W : Wd) (F H F' H' : Hp) : Prop where
  ff : Same F F'
  hh : ∀ a o, H a = some o → W.g ≠ some a → H' a = some o
  hs : ∀ a, H a ≠ none → H' a ≠ none
  nw : ∀ a, H a ≠ none → F a = none → F' a = none
def Rv (K : PySem.W.Frag) (W : Wd) (Hs F H : Hp) (v : V) : RV → Prop
  | .fz d => Fz K F v d
  | .tmp ds => ∃ p vs, v = .ref p ∧ Hs p = none ∧ H p = some (.lst vs) ∧ F p = none ∧ FzA K F vs ds
  | .bor ds => ∃ p vs, v = .ref p ∧ H p = some (.lst vs) ∧ F p = none ∧ W.B p = none ∧ W.g ≠ some p ∧ FzA K F vs ds
  | .gen => ∃ p, v = .ref p ∧ W.g = some p
  | .scr ns => ∃ a, v = .ref a ∧ SqL K F a (ns.map V.int)

section
variable {K : PySem.W.Frag} {W : Wd} {F H F' H' F1 H1 F2 H2 : Hp} {ρ : Rho} {n : Nat} {σ : L2.St}
theorem Ext.refl : Ext W F H F H := ⟨Same.refl F, fun _ _ h _ => h, fun _ h => h, fun _ _ h => h⟩
theorem Ext.trans (a : Ext W F H F1 H1) (b : Ext W F1 H1 F2 H2) : Ext W F H F2 H2 :=
  ⟨a.ff.trans b.ff, fun c o h g => b.hh c o (a.hh c o h g) g, fun c h => b.hs c (a.hs c h), fun c h1 h2 => b.nw c (a.hs c h1) (a.nw c h1 h2)⟩
theorem some_ne {o : Option HO} {u : HO} (h : o = some u) : o ≠ none := by rw [h]; exact fun z => nomatch z
theorem Mo.nog (m : Mo K W F ρ n σ H) {p : Addr} (h : H p = none) : W.g ≠ some p := fun z => by
  obtain ⟨_, gs, e, _⟩ := m.gn p z
  rw [h] at e; cases e
theorem Mo.nof (m : Mo K W F ρ n σ H) {p : Addr} (h : H p = none) : F p = none := m.fh.free h
theorem Mo.nob (m : Mo K W F ρ n σ H) {p : Addr} (h : H p = none) : W.B p = none := by
  cases e : W.B p with
  | none => rfl
  | some o => exact absurd h (m.bs p (some_ne e))

/-- all is kept but what is new -/
theorem Sl.mono {v : V} {e : EV} (x : Ext W F H F' H') (nf : ∀ a, W.B a = none → H a ≠ none → F a = none → F' a = none) (h : Sl K W F H v e) : Sl K W F' H' v e := by
  cases e with
  | fz d => exact Fz.mono x.ff h
  | ol ds =>
    obtain ⟨p, vs, e, hp, fp, bp, gp, fz⟩ := h
    exact ⟨p, vs, e, x.hh p _ hp gp, nf p bp (some_ne hp) fp, bp, gp, fz.mono x.ff⟩
  | gen => exact h
  | scr ns =>
    obtain ⟨a, e, q⟩ := h
    exact ⟨a, e, same_l x.ff q⟩

/-- a new object at p, of ours (not yet frozen) -/
theorem Mo.own (m : Mo K W F ρ n σ H) {p : Addr} {o : HO} (h : H p = none) : Mo K W F ρ n σ (upd H p o) := by
  have keep : ∀ a u, H a = some u → upd H p o a = some u := fun a u e => by rw [upd_ne (ne_of_none e h)]; exact e
  refine ⟨m.ln, m.f0, fun a u e => keep a u (m.fh a u e), fun a u e g => keep a u (m.bh a u e g), fun a e => ?_, m.fn, fun q z => ?_, fun i e hi => ?_, m.dj⟩
  · by_cases c : a = p
    · subst c; rw [upd_same]; exact fun z => nomatch z
    · rw [upd_ne c]; exact m.bs a e
  · obtain ⟨a, gs, e, g⟩ := m.gn q z
    exact ⟨a, gs, keep q _ e, g⟩
  · obtain ⟨v, hv, s⟩ := m.sl i e hi
    refine ⟨v, hv, ?_⟩
    cases e with
    | fz d => exact s
    | ol ds =>
      obtain ⟨q, vs, e, hq, r⟩ := s
      exact ⟨q, vs, e, keep q _ hq, r⟩
    | gen => exact s
    | scr ns => exact s
theorem Ext.own {p : Addr} {o : HO} (h : H p = none) : Ext W F H F (upd H p o) := by
  refine ⟨Same.refl F, fun a u e _ => by rw [upd_ne (ne_of_none e h)]; exact e, fun a e => ?_, fun _ _ z => z⟩
  by_cases c : a = p
  · subst c; exact absurd h e
  · rw [upd_ne c]; exact e
/-- what stands at p (ours, in no slot, young) is frozen -/
theorem Mo.frz (m : Mo K W F ρ n σ H) {p : Addr} {o : HO} (h : H p = some o) (hb : W.B p = none) (hg : W.g ≠ some p) (hf : F p = none) (ns : ∀ (i : Nat) (ds : List D), ρ[i]? = some (some (EV.ol ds)) → σ[i]? ≠ some (some (V.ref p))) : Mo K W (upd F p o) ρ n σ H := by
  have ff : Same F (upd F p o) := fun a u e => by rw [upd_ne (ne_of_none e hf)]; exact e
  refine ⟨m.ln, m.f0.trans ff, fun a u e => ?_, m.bh, m.bs, fun a h1 h2 => ?_, fun q z => ?_, fun i e hi => ?_, m.dj⟩
  · by_cases c : a = p
    · subst c; rw [upd_same] at e; cases e; exact h
    · rw [upd_ne c] at e; exact m.fh a u e
  · have c : a ≠ p := fun z => by rw [z] at h1; exact h1 hb
    rw [upd_ne c]; exact m.fn a h1 h2
  · obtain ⟨a, gs, e, g⟩ := m.gn q z
    refine ⟨?_, gs, e, g⟩
    rw [upd_ne (fun y : q = p => hg (by rw [← y]; exact z))]; exact a
  · obtain ⟨v, hv, s⟩ := m.sl i e hi
    refine ⟨v, hv, ?_⟩
    cases e with
    | fz d => exact Fz.mono ff s
    | ol ds =>
      obtain ⟨q, vs, e, hq, fq, bq, gq, fz⟩ := s
      have c : q ≠ p := fun z => by
        subst z; subst e
        exact ns i ds hi hv
      exact ⟨q, vs, e, hq, by rw [upd_ne c]; exact fq, bq, gq, fz.mono ff⟩
    | gen => exact s
    | scr ns =>
      obtain ⟨a, e, q⟩ := s
      exact ⟨a, e, same_l ff q⟩
theorem Mo.slotIn (m : Mo K W F ρ n σ H) {p : Addr} (h : H p = none) : ∀ (i : Nat) (ds : List D), ρ[i]? = some (some (EV.ol ds)) → σ[i]? ≠ some (some (V.ref p)) := fun i ds hi z => by
  obtain ⟨v, hv, q, vs, e, hq, _⟩ := m.sl i (.ol ds) hi
  rw [hv] at z
  have z1 : v = V.ref p := Option.some.inj (Option.some.inj z)
  rw [e] at z1
  have z2 : q = p := by injection z1
  rw [z2, h] at hq; cases hq
theorem Ext.frz {p : Addr} {o : HO} (x : Ext W F H F1 H1) (h : H p = none) (hf : F1 p = none) : Ext W F H (upd F1 p o) H1 := by
  refine ⟨x.ff.trans fun a u e => by rw [upd_ne (ne_of_none e hf)]; exact e, x.hh, x.hs, fun a h1 h2 => ?_⟩
  rw [upd_ne (fun z => by rw [z] at h1; exact h1 h)]; exact x.nw a h1 h2
/-- slots forgotten -/
theorem Mo.weak {ρ' : Rho} (m : Mo K W F ρ n σ H) (hl : ρ'.length ≤ ρ.length) (w : ∀ (i : Nat) e, ρ'[i]? = some (some e) → ρ[i]? = some (some e)) : Mo K W F ρ' n σ H :=
  ⟨Nat.le_trans hl m.ln, m.f0, m.fh, m.bh, m.bs, m.fn, m.gn, fun i e h => m.sl i e (w i e h), fun i j di dj p h1 h2 => m.dj i j di dj p (w i _ h1) (w j _ h2)⟩
theorem Mo.slots {σ' : L2.St} (m : Mo K W F ρ n σ H) (hl : σ.length ≤ σ'.length) (w : ∀ (i : Nat) e v, ρ[i]? = some (some e) → σ[i]? = some (some v) → σ'[i]? = some (some v)) : Mo K W F ρ n σ' H := by
  refine ⟨Nat.le_trans m.ln hl, m.f0, m.fh, m.bh, m.bs, m.fn, m.gn, fun i e h => ?_, fun i j di dj p h1 h2 h3 h4 => ?_⟩
  · obtain ⟨v, hv, s⟩ := m.sl i e h
    exact ⟨v, w i e v h hv, s⟩
  · have hv0 := m.sl i (.ol di) h1
    have hv1 := m.sl j (.ol dj) h2
    obtain ⟨v, hv, q, vs, e, hq, _⟩ := hv0
    obtain ⟨v', hv', q', vs', e', hq', _⟩ := hv1
    have a := w i _ v h1 hv
    have b := w j _ v' h2 hv'
    rw [h3] at a; rw [h4] at b
    have a1 : V.ref p = v := Option.some.inj (Option.some.inj a)
    have b1 : V.ref p = v' := Option.some.inj (Option.some.inj b)
    exact m.dj i j di dj p h1 h2 (by rw [a1]; exact hv) (by rw [b1]; exact hv')

/-! ### reading what is in flight -/
def RV.rd : RV → Option D
  | .fz d => some d
  | .tmp ds => some (.list ds)
  | .bor ds => some (.list ds)
  | .gen => none
  | .scr _ => none
/-- as data where it stands -/
theorem Rv.read {Hs : Hp} {v : V} {r : RV} {d : D} (fh : Same F H) (h : Rv K W Hs F H v r) (e : r.rd = some d) : Fz K H v d := by
  cases r with
  | fz d' => cases e; exact Fz.mono fh h
  | tmp ds =>
    cases e
    obtain ⟨p, vs, rfl, _, hp, _, fz⟩ := h
    exact .lst hp (fz.mono fh)
  | bor ds =>
    cases e
    obtain ⟨p, vs, rfl, hp, _, _, _, fz⟩ := h
    exact .lst hp (fz.mono fh)
  | gen => cases e
  | scr ns => cases e
/-- a list's items, frozen -/
theorem Rv.items {Hs : Hp} {v : V} {r : RV} {ds : List D} (fh : Same F H) (h : Rv K W Hs F H v r) (e : r.rd = some (.list ds)) : ∃ a xs, v = .ref a ∧ H a = some (.lst xs) ∧ FzA K F xs ds := by
  cases r with
  | fz d' =>
    cases e
    cases h with
    | lst h t => exact ⟨_, _, rfl, fh _ _ h, t⟩
  | tmp ds =>
    cases e
    obtain ⟨p, vs, rfl, _, hp, _, fz⟩ := h
    exact ⟨p, vs, rfl, hp, fz⟩
  | bor ds =>
    cases e
    obtain ⟨p, vs, rfl, hp, _, _, _, fz⟩ := h
    exact ⟨p, vs, rfl, hp, fz⟩
  | gen => cases e
  | scr ns => cases e
theorem Rv.titems {Hs : Hp} {v : V} {r : RV} {ds : List D} (fh : Same F H) (h : Rv K W Hs F H v r) (e : r.rd = some (.tuple ds)) : ∃ a xs, v = .ref a ∧ SqT K H a xs ∧ FzA K F xs ds := by
  cases r with
  | fz d' =>
    cases e
    cases h with
    | tup h t => exact ⟨_, _, rfl, same_t fh h, t⟩
  | tmp ds => cases e
  | bor ds => cases e
  | gen => cases e
  | scr ns => cases e
/-- what was in flight stands behind a further step -/
theorem Rv.step {Hs : Hp} {v : V} {r : RV} (m : Mo K W F ρ n σ H) (sg : ∀ p, W.g = some p → Hs p ≠ none) (x : Ext W F H F' H') (h : Rv K W Hs F H v r) : Rv K W Hs F' H' v r := by
  cases r with
  | fz d => exact Fz.mono x.ff h
  | tmp ds =>
    obtain ⟨p, vs, e, hs, hp, fp, fz⟩ := h
    exact ⟨p, vs, e, hs, x.hh p _ hp (fun z => sg p z hs), x.nw p (some_ne hp) fp, fz.mono x.ff⟩
  | bor ds =>
    obtain ⟨p, vs, e, hp, fp, bp, gp, fz⟩ := h
    exact ⟨p, vs, e, x.hh p _ hp gp, x.nw p (some_ne hp) fp, bp, gp, fz.mono x.ff⟩
  | gen => exact h
  | scr ns =>
    obtain ⟨a, e, q⟩ := h
    exact ⟨a, e, same_l x.ff q⟩
theorem Mo.sg (m : Mo K W F ρ n σ H) : ∀ p, W.g = some p → H p ≠ none := fun p z h => m.nog h z
/-- what is given: data alone (the new list frozen) -/
def RV.fr : RV → RV
  | .tmp ds => .fz (.list ds)
  | r => r
theorem Rv.freeze {n1 : Nat} {v : V} {r : RV} (m : Mo K W F ρ n σ H) (m' : Mo K W F' ρ n1 σ H') (x : Ext W F H F' H') (h : Rv K W H F' H' v r) : ∃ F2, Ext W F H F2 H' ∧ Mo K W F2 ρ n1 σ H' ∧ Rv K W H F2 H' v r.fr ∧ Same F' F2 := by
  cases r with
  | fz d => exact ⟨F', x, m', h, Same.refl _⟩
  | tmp ds =>
    obtain ⟨p, vs, rfl, hs, hp, fp, fz⟩ := h
    have ff : Same F' (upd F' p (.lst vs)) := fun a u e => by rw [upd_ne (ne_of_none e fp)]; exact e
    refine ⟨upd F' p (.lst vs), x.frz hs fp, ?_, .lst upd_same (fz.mono ff), ff⟩
    refine m'.frz hp (m.nob hs) (m.nog hs) fp fun i ds hi z => ?_
    exact m.slotIn hs i ds hi z
  | bor ds => exact ⟨F', x, m', h, Same.refl _⟩
  | gen => exact ⟨F', x, m', h, Same.refl _⟩
  | scr ns => exact ⟨F', x, m', h, Same.refl _⟩
end
end DL

namespace DL
open PySem PySem.Spec PyProof.Rows L2

/-- simp does not look into what is held -/
structure Tag (p : Prop) : Type where
def Stop (p : Prop) (_ : Tag p) : Prop := p
theorem stop_intro {p : Prop} {t : Tag p} (h : p) : Stop p t := h
/-! ### judgements -/
abbrev WE := Rho → Nat → (RV → Nat → Prop) → Prop
abbrev WT := Rho → Nat → (Bool → Nat → Prop) → Prop
abbrev WA := Rho → Nat → (List RV → Nat → Prop) → Prop
def RV.isTmp : RV → Bool
  | .tmp _ => true
  | _ => false
inductive RA (K : PySem.W.Frag) (W : Wd) (F H : Hp) : List V → List RV → Prop
  | nil : RA K W F H [] []
  | cons {v : V} {r : RV} {vs : List V} {rs : List RV} : Rv K W H F H v r → r.isTmp = false → RA K W F H vs rs → RA K W F H (v :: vs) (r :: rs)
def liftE (K : PySem.W.Frag) (W : Wd) (w : WE) : TE := fun σ H Q => ∃ F ρ n P, Mo K W F ρ n σ H ∧ w ρ n P ∧
  ∀ r n' v F' H', P r n' → Ext W F H F' H' → Mo K W F' ρ n' σ H' → Rv K W H F' H' v r → Q v H'
def liftT (K : PySem.W.Frag) (W : Wd) (w : WT) : TT := fun σ H Q => ∃ F ρ n P, Mo K W F ρ n σ H ∧ w ρ n P ∧
  ∀ b n' F' H', P b n' → Ext W F H F' H' → Mo K W F' ρ n' σ H' → Q b H'
def liftA (K : PySem.W.Frag) (W : Wd) (w : WA) : TA := fun σ H Q => ∃ F ρ n P, Mo K W F ρ n σ H ∧ w ρ n P ∧
  ∀ rs n' vs F' H', P rs n' → Ext W F H F' H' → Mo K W F' ρ n' σ H' → RA K W F' H' vs rs → Q vs H'
abbrev PD (X : Cx) (W : Wd) (e : Expr) (w : WE) : Prop := PE X e (liftE X.K W w)
abbrev PDT (X : Cx) (W : Wd) (e : Expr) (w : WT) : Prop := PT X e (liftT X.K W w)
abbrev PDW (X : Cx) (W : Wd) (e : Expr) (w : WT) : Prop := PW X e (liftT X.K W w)
abbrev PDA (X : Cx) (W : Wd) (es : List Expr) (w : WA) : Prop := PA X es (liftA X.K W w)

theorem imE {X : Cx} {e : Expr} {t t' : TE} (h : PE X e t) (i : ∀ σ H Q, t' σ H Q → t σ H Q) : PE X e t' := ⟨fun pins s σ H Q I q => h.run pins s σ H Q I (i σ H Q q)⟩
theorem imT {X : Cx} {e : Expr} {t t' : TT} (h : PT X e t) (i : ∀ σ H Q, t' σ H Q → t σ H Q) : PT X e t' := ⟨fun pins s σ H Q I q => h.run pins s σ H Q I (i σ H Q q)⟩
theorem imW {X : Cx} {e : Expr} {t t' : TT} (h : PW X e t) (i : ∀ σ H Q, t' σ H Q → t σ H Q) : PW X e t' := ⟨fun wh pins s σ H Q I q => h.run wh pins s σ H Q I (i σ H Q q)⟩
theorem imA {X : Cx} {es : List Expr} {t t' : TA} (h : PA X es t) (i : ∀ σ H Q, t' σ H Q → t σ H Q) : PA X es t' := ⟨fun pos pins s σ H Q I q => h.run pos pins s σ H Q I (i σ H Q q)⟩
theorem imS {X : Cx} {st : Stmt} {t t' : TS} (h : PS X st t) (i : ∀ σ H D, t' D σ H → t D σ H) : PS X st t' := ⟨fun pins s σ H D I q => h.run pins s σ H D I (i σ H D q)⟩
theorem imSs {X : Cx} {st : List Stmt} {t t' : TS} (h : PSs X st t) (i : ∀ σ H D, t' D σ H → t D σ H) : PSs X st t' := ⟨fun pins s σ H D I q => h.run pins s σ H D I (i σ H D q)⟩

section
variable {K : PySem.W.Frag} {W : Wd} {F H F' H' F1 H1 F2 H2 : Hp} {ρ : Rho} {n : Nat} {σ : L2.St}
theorem Rv.back {Hs Hm : Hp} {v : V} {r : RV} (k : ∀ a, Hs a ≠ none → Hm a ≠ none) (h : Rv K W Hm F H v r) : Rv K W Hs F H v r := by
  cases r with
  | fz d => exact h
  | tmp ds =>
    obtain ⟨p, vs, e, hs, x⟩ := h
    refine ⟨p, vs, e, ?_, x⟩
    cases q : Hs p with
    | none => rfl
    | some o => exact absurd hs (k p (some_ne q))
  | bor ds => exact h
  | gen => exact h
  | scr ns => exact h
theorem Rv.now {Hs : Hp} {v : V} {r : RV} (ht : r.isTmp = false) (h : Rv K W Hs F H v r) : Rv K W H F H v r := by
  cases r with
  | tmp ds => cases ht
  | _ => exact h
theorem RV.fr_not (r : RV) : r.fr.isTmp = false := by cases r <;> rfl
theorem RV.fr_rd (r : RV) : r.fr.rd = r.rd := by cases r <;> rfl
theorem RA.step {vs : List V} {rs : List RV} (m : Mo K W F ρ n σ H) (x : Ext W F H F' H') (h : RA K W F H vs rs) : RA K W F' H' vs rs := by
  induction h with
  | nil => exact .nil
  | cons a t _ ih => exact .cons ((Rv.step m m.sg x a).now t) t ih
theorem RA.length {vs : List V} {rs : List RV} (h : RA K W F H vs rs) : vs.length = rs.length := by
  induction h with
  | nil => rfl
  | cons _ _ _ ih => exact congrArg (· + 1) ih

/-! values by their data -/
theorem Rv.int {Hs : Hp} {v : V} {r : RV} {i : Int} (h : Rv K W Hs F H v r) (e : r.rd = some (.int i)) : v = .int i := by
  cases r with
  | fz d => cases e; cases h; rfl
  | _ => cases e
theorem Rv.str {Hs : Hp} {v : V} {r : RV} {i : Str} (h : Rv K W Hs F H v r) (e : r.rd = some (.str i)) : v = .str i := by
  cases r with
  | fz d => cases e; cases h; rfl
  | _ => cases e
theorem Rv.bool {Hs : Hp} {v : V} {r : RV} {i : Bool} (h : Rv K W Hs F H v r) (e : r.rd = some (.bool i)) : v = .bl i := by
  cases r with
  | fz d => cases e; cases h; rfl
  | _ => cases e
theorem Rv.non {Hs : Hp} {v : V} {r : RV} (h : Rv K W Hs F H v r) (e : r.rd = some .none) : v = .non := by
  cases r with
  | fz d => cases e; cases h; rfl
  | _ => cases e

/-! a step: nothing new, or one new object -/
inductive Nxt (F H : Hp) : Hp → Hp → Prop
  | same : Nxt F H F H
  | own {p : Addr} {o : HO} : H p = none → Nxt F H F (upd H p o)
  | frz {p : Addr} {o : HO} : H p = none → Nxt F H (upd F p o) (upd H p o)
theorem Nxt.ok (m : Mo K W F ρ n σ H) (x : Nxt F H F' H') : Ext W F H F' H' ∧ Mo K W F' ρ n σ H' := by
  cases x with
  | same => exact ⟨.refl, m⟩
  | own h => exact ⟨.own h, m.own h⟩
  | @frz p o h =>
    refine ⟨(Ext.own h).frz h (m.nof h), (m.own (o := o) h).frz upd_same (m.nob h) (m.nog h) (m.nof h) ?_⟩
    exact m.slotIn h

/-- two values in a row -/
theorem two {wa wb : WE} {C : RV → RV → Nat → Prop} {R : V → V → Hp → Prop} (m : Mo K W F ρ n σ H) (h : wa ρ n fun x n1 => wb ρ n1 fun y n2 => C x y n2)
    (k : ∀ x y n2 v u F2 H2, C x y n2 → Ext W F H F2 H2 → Mo K W F2 ρ n2 σ H2 → Rv K W H F2 H2 v x → Rv K W H F2 H2 u y → R v u H2) :
    liftE K W wa σ H fun v H1 => liftE K W wb σ H1 fun u H2 => R v u H2 := by
  refine ⟨F, ρ, n, _, m, h, fun x n1 v F1 H1 h1 x1 m1 r1 => ?_⟩
  refine ⟨F1, ρ, n1, _, m1, h1, fun y n2 u F2 H2 h2 x2 m2 r2 => ?_⟩
  exact k x y n2 v u F2 H2 h2 (x1.trans x2) m2 (Rv.step m1 m.sg x2 r1) (r2.back x1.hs)
end

/-! ### names and constants -/
def EV.rv : EV → RV
  | .fz d => .fz d
  | .ol ds => .bor ds
  | .gen => .gen
  | .scr ns => .scr ns
def wVar (i : Nat) : WE := fun ρ n Q => match ρ[i]? with
  | some (some e) => Q e.rv n
  | _ => False
def wC (d : D) : WE := fun _ n Q => Q (.fz d) n
section
variable {X : Cx} {W : Wd} {a b c e : Expr} {es : List Expr} {wa wb wc we : WE} {pos : Pos}
theorem pd_var {i : Nat} (h : PE X e (tVar i)) : PD X W e (wVar i) := imE h fun σ H Q ⟨F, ρ, n, P, m, w, k⟩ => by
  unfold wVar at w
  split at w
  · rename_i ev he
    obtain ⟨v, hv, s⟩ := m.sl i ev he
    refine ⟨v, hv, k _ n v F H w .refl m ?_⟩
    cases ev with
    | fz d => exact s
    | ol ds => exact s
    | gen => exact s
    | scr ns => exact s
  · exact w.elim
theorem pd_c {v : V} {d : D} (h : PE X e (tC v)) (f : ∀ F, Fz X.K F v d) : PD X W e (wC d) := imE h fun σ H Q ⟨F, ρ, n, P, m, w, k⟩ => k _ n v F H w .refl m (f F)
theorem pd_int {i j} : PD X W (.Constant (.int i) j pos) (wC (.int i)) := pd_c pe_int fun _ => .int i
theorem pd_bl {i j} : PD X W (.Constant (.bool i) j pos) (wC (.bool i)) := pd_c pe_bl fun _ => .bl i
theorem pd_non {j} : PD X W (.Constant .none j pos) (wC .none) := pd_c pe_non fun _ => .non
theorem pd_str {i j} : PD X W (.Constant (.str i) j pos) (wC (.str i)) := pd_c pe_str fun _ => .str i

/-! ### operators -/
abbrev O2 := RV → RV → (RV → Prop) → Prop
abbrev O1 := RV → (RV → Prop) → Prop
def OpD (X : Cx) (W : Wd) (f : Value → Value → Sem Value) (o : O2) : Prop := ∃ r : R2, OpR X f r ∧ ∀ (Hs F H : Hp) (x y : V) (rx ry : RV) (P : RV → Prop) (Q : VK),
  Same F H → Rv X.K W Hs F H x rx → Rv X.K W Hs F H y ry → o rx ry P → (∀ rz v F' H', P rz → Nxt F H F' H' → Rv X.K W H F' H' v rz → Q v H') → r x y H Q
def UnD (X : Cx) (W : Wd) (f : Value → Sem Value) (o : O1) : Prop := ∃ r : V → Hp → VK → Prop, UnR X f r ∧ ∀ (Hs F H : Hp) (x : V) (rx : RV) (P : RV → Prop) (Q : VK),
  Same F H → Rv X.K W Hs F H x rx → o rx P → (∀ rz v F' H', P rz → Nxt F H F' H' → Rv X.K W H F' H' v rz → Q v H') → r x H Q
def wBin (o : O2) (wa wb : WE) : WE := fun ρ n Q => wa ρ n fun x n1 => wb ρ n1 fun y n2 => o x y fun z => Q z n2
def wUn (o : O1) (wa : WE) : WE := fun ρ n Q => wa ρ n fun x n1 => o x fun z => Q z n1
theorem fin {K : PySem.W.Frag} {F H F2 H2 F' H' : Hp} {ρ : Rho} {n2 : Nat} {σ : L2.St} {P : RV → Nat → Prop} {Q : VK} {rz : RV} {v : V}
    (k : ∀ r n' v F' H', P r n' → Ext W F H F' H' → Mo K W F' ρ n' σ H' → Rv K W H F' H' v r → Q v H') (x : Ext W F H F2 H2) (m2 : Mo K W F2 ρ n2 σ H2)
    (p : P rz n2) (nx : Nxt F2 H2 F' H') (r : Rv K W H2 F' H' v rz) : Q v H' := by
  obtain ⟨x', m'⟩ := nx.ok m2
  exact k rz n2 v F' H' p (x.trans x') m' (r.back x.hs)
theorem pd_bin {op : Operator} {o : O2} (ho : OpD X W (binaryOp op) o) (ha : PD X W a wa) (hb : PD X W b wb) : PD X W (.BinOp a op b pos) (wBin o wa wb) := by
  obtain ⟨r, hr, so⟩ := ho
  refine imE (pe_op hr ha hb) fun σ H Q ⟨F, ρ, n, P, m, w, k⟩ => ?_
  refine two m w fun x y n2 v u F2 H2 c x2 m2 r1 r2 => ?_
  exact so H F2 H2 v u x y _ Q m2.fh r1 r2 c fun rz z F' H' p nx rv => fin k x2 m2 p nx rv
theorem pd_cmp {op : CmpOp} {o : O2} (ho : OpD X W (compareOp op) o) (ha : PD X W a wa) (hb : PD X W b wb) (hm : behindInMarks op b = false) : PD X W (.Compare a [op] [b] pos) (wBin o wa wb) := by
  obtain ⟨r, hr, so⟩ := ho
  refine imE (pe_cmpR hr ha hb hm) fun σ H Q ⟨F, ρ, n, P, m, w, k⟩ => ?_
  refine two m w fun x y n2 v u F2 H2 c x2 m2 r1 r2 => ?_
  exact so H F2 H2 v u x y _ Q m2.fh r1 r2 c fun rz z F' H' p nx rv => fin k x2 m2 p nx rv
theorem pd_un {op : UnaryOp} {o : O1} (ho : UnD X W (unaryOp op) o) (ha : PD X W a wa) : PD X W (.UnaryOp op a pos) (wUn o wa) := by
  obtain ⟨r, hr, so⟩ := ho
  refine imE (pe_un hr ha) fun σ H Q ⟨F, ρ, n, P, m, w, k⟩ => ?_
  refine ⟨F, ρ, n, _, m, w, fun x n1 v F1 H1 c x1 m1 r1 => ?_⟩
  exact so H F1 H1 v x _ Q m1.fh r1 c fun rz z F' H' p nx rv => fin k x1 m1 p nx rv
/-- two comparisons in a chain -/
def wChain (o o' : O2) (wa wb wc : WE) : WE := fun ρ n Q => wa ρ n fun x n1 => wb ρ n1 fun y n2 => o x y fun z => match z with
  | .fz (.bool true) => wc ρ n2 fun u n3 => o' y u fun z' => Q z' n3
  | .fz (.bool false) => Q (.fz (.bool false)) n2
  | _ => False
theorem pd_chain {op op' : CmpOp} {o o' : O2} (ho : OpD X W (compareOp op) o) (ho' : OpD X W (compareOp op') o') (ha : PD X W a wa) (hb : PD X W b wb) (hc : PD X W c wc)
    (hm : lastMarks [op, op'] [b, c] = false := by with_unfolding_all rfl) : PD X W (.Compare a [op, op'] [b, c] pos) (wChain o o' wa wb wc) := by
  obtain ⟨r, hr, so⟩ := ho
  obtain ⟨r', hr', so'⟩ := ho'
  refine imE (pe_chain hr hr' ha hb hc hm) fun σ H Q ⟨F, ρ, n, P, m, w, k⟩ => ?_
  refine two m w fun x y n2 v u F2 H2 c x2 m2 r1 r2 => ?_
  refine so H F2 H2 v u x y _ _ m2.fh r1 r2 c fun rz z F3 H3 p nx rv => ?_
  obtain ⟨x3, m3⟩ := nx.ok m2
  (try dsimp only at p)
  split at p
  · rename_i t
    refine ⟨true, rv.bool rfl, ?_⟩
    rw [if_pos rfl]
    refine ⟨F3, ρ, n2, _, m3, p, fun q n4 t F4 H4 c4 x4 m4 r4 => ?_⟩
    exact so' H F4 H4 u t y q _ Q m4.fh (Rv.step m3 m.sg x4 (Rv.step m2 m.sg x3 r2)) (r4.back (fun a h => x3.hs a (x2.hs a h))) c4 fun rz' z' F' H' p' nx' rv' => fin k ((x2.trans x3).trans x4) m4 p' nx' rv'
  · refine ⟨false, rv.bool rfl, ?_⟩
    rw [if_neg Bool.false_ne_true]
    exact k _ n2 _ F3 H3 p (x2.trans x3) m3 (.bl false)
  · exact p.elim

/-! ### and, or, not; tests -/
def wAndV (wa wb : WE) : WE := fun ρ n Q => wa ρ n fun x n1 => match x with
  | .fz (.bool true) => wb ρ n1 Q
  | .fz (.bool false) => Q (.fz (.bool false)) n1
  | _ => False
def wOrV (wa wb : WE) : WE := fun ρ n Q => wa ρ n fun x n1 => match x with
  | .fz (.bool true) => Q (.fz (.bool true)) n1
  | .fz (.bool false) => wb ρ n1 Q
  | _ => False
def wNotV (wa : WE) : WE := fun ρ n Q => wa ρ n fun x n1 => match x with
  | .fz (.bool k) => Q (.fz (.bool (!k))) n1
  | _ => False
variable {rest : List Expr} {wt wu : WT}
theorem pd_and (ha : PD X W a wa) (hb : PD X W (.BoolOp .And (b :: rest) pos) wb) : PD X W (.BoolOp .And (a :: b :: rest) pos) (wAndV wa wb) := imE (pe_and ha hb) fun σ H Q ⟨F, ρ, n, P, m, w, k⟩ => by
  refine ⟨F, ρ, n, _, m, w, fun x n1 v F1 H1 c x1 m1 r1 => ?_⟩
  split at c
  · refine ⟨true, r1.bool rfl, ?_⟩
    rw [if_pos rfl]
    exact ⟨F1, ρ, n1, P, m1, c, fun r n' u F' H' p x' m' rv => k r n' u F' H' p (x1.trans x') m' (rv.back x1.hs)⟩
  · refine ⟨false, r1.bool rfl, ?_⟩
    rw [if_neg Bool.false_ne_true]
    exact k _ n1 _ F1 H1 c x1 m1 (.bl false)
  · exact c.elim
theorem pd_or (ha : PD X W a wa) (hb : PD X W (.BoolOp .Or (b :: rest) pos) wb) : PD X W (.BoolOp .Or (a :: b :: rest) pos) (wOrV wa wb) := imE (pe_or ha hb) fun σ H Q ⟨F, ρ, n, P, m, w, k⟩ => by
  refine ⟨F, ρ, n, _, m, w, fun x n1 v F1 H1 c x1 m1 r1 => ?_⟩
  split at c
  · refine ⟨true, r1.bool rfl, ?_⟩
    rw [if_pos rfl]
    exact k _ n1 _ F1 H1 c x1 m1 (.bl true)
  · refine ⟨false, r1.bool rfl, ?_⟩
    rw [if_neg Bool.false_ne_true]
    exact ⟨F1, ρ, n1, P, m1, c, fun r n' u F' H' p x' m' rv => k r n' u F' H' p (x1.trans x') m' (rv.back x1.hs)⟩
  · exact c.elim
theorem pd_one {op} (h : PD X W a wa) : PD X W (.BoolOp op [a] pos) wa := pe_one h
theorem pd_not (ha : PD X W a wa) : PD X W (.UnaryOp .Not a pos) (wNotV wa) := imE (pe_not ha) fun σ H Q ⟨F, ρ, n, P, m, w, k⟩ => by
  refine ⟨F, ρ, n, _, m, w, fun x n1 v F1 H1 c x1 m1 r1 => ?_⟩
  split at c
  · rename_i b
    exact ⟨b, r1.bool rfl, k _ n1 _ F1 H1 c x1 m1 (.bl _)⟩
  · exact c.elim
/-- a value that is a bool, as a test -/
def wB (wa : WE) : WT := fun ρ n Q => wa ρ n fun x n1 => match x with
  | .fz (.bool k) => Q k n1
  | _ => False
theorem pdt_val (h : PD X W e we) (he : ∀ whole, isTrue e X.env whole = (do let v ← whole; standAt e.pos; holding [v] (truthy v)) := by intro _; rfl) : PDT X W e (wB we) := imT (pt_val h he) fun σ H Q ⟨F, ρ, n, P, m, w, k⟩ => by
  refine ⟨F, ρ, n, _, m, w, fun x n1 v F1 H1 c x1 m1 r1 => ?_⟩
  split at c
  · rename_i b
    exact ⟨b, r1.bool rfl, k _ n1 F1 H1 c x1 m1⟩
  · exact c.elim
theorem pdt_cmp {op : CmpOp} {o : O2} (ho : OpD X W (compareOp op) o) (ha : PD X W a wa) (hb : PD X W b wb) (hm : behindInMarks op b = false) : PDT X W (.Compare a [op] [b] pos) (wB (wBin o wa wb)) := by
  obtain ⟨r, hr, so⟩ := ho
  refine imT (pt_cmpR hr ha hb hm) fun σ H Q ⟨F, ρ, n, P, m, w, k⟩ => ?_
  refine two m w fun x y n2 v u F2 H2 c x2 m2 r1 r2 => ?_
  refine so H F2 H2 v u x y _ _ m2.fh r1 r2 c fun rz z F' H' p nx rv => ?_
  obtain ⟨x3, m3⟩ := nx.ok m2
  (try dsimp only at p)
  split at p
  · rename_i b
    exact ⟨b, rv.bool rfl, k _ n2 F' H' p (x2.trans x3) m3⟩
  · exact p.elim
theorem pdt_chain {op op' : CmpOp} {o o' : O2} (ho : OpD X W (compareOp op) o) (ho' : OpD X W (compareOp op') o') (ha : PD X W a wa) (hb : PD X W b wb) (hc : PD X W c wc)
    (hm : lastMarks [op, op'] [b, c] = false := by with_unfolding_all rfl) : PDT X W (.Compare a [op, op'] [b, c] pos) (wB (wChain o o' wa wb wc)) := by
  obtain ⟨r, hr, so⟩ := ho
  obtain ⟨r', hr', so'⟩ := ho'
  refine imT (pt_chain hr hr' ha hb hc hm) fun σ H Q ⟨F, ρ, n, P, m, w, k⟩ => ?_
  refine two m w fun x y n2 v u F2 H2 c x2 m2 r1 r2 => ?_
  refine so H F2 H2 v u x y _ _ m2.fh r1 r2 c fun rz z F3 H3 p nx rv => ?_
  obtain ⟨x3, m3⟩ := nx.ok m2
  (try dsimp only at p)
  split at p
  · rename_i t
    refine ⟨true, rv.bool rfl, ?_⟩
    rw [if_pos rfl]
    refine ⟨F3, ρ, n2, _, m3, p, fun q n4 t F4 H4 c4 x4 m4 r4 => ?_⟩
    refine so' H F4 H4 u t y q _ _ m4.fh (Rv.step m3 m.sg x4 (Rv.step m2 m.sg x3 r2)) (r4.back (fun a h => x3.hs a (x2.hs a h))) c4 fun rz' z' F' H' p' nx' rv' => ?_
    obtain ⟨x5, m5⟩ := nx'.ok m4
    (try dsimp only at p')
    split at p'
    · rename_i b
      exact ⟨b, rv'.bool rfl, k _ n4 F' H' p' (((x2.trans x3).trans x4).trans x5) m5⟩
    · exact p'.elim
  · refine ⟨false, rv.bool rfl, ?_⟩
    rw [if_neg Bool.false_ne_true]
    exact ⟨false, rfl, k _ n2 F3 H3 p (x2.trans x3) m3⟩
  · exact p.elim
def wAnd (wt wu : WT) : WT := fun ρ n Q => wt ρ n fun b n1 => if b = true then wu ρ n1 Q else Q false n1
def wOr (wt wu : WT) : WT := fun ρ n Q => wt ρ n fun b n1 => if b = true then Q true n1 else wu ρ n1 Q
def wNot (wt : WT) : WT := fun ρ n Q => wt ρ n fun b n1 => Q (!b) n1
theorem pdw_and1 (ha : PDT X W a wt) : PDW X W (.BoolOp .And [a] pos) wt := pw_and1 ha
theorem pdw_or1 (ha : PDT X W a wt) : PDW X W (.BoolOp .Or [a] pos) wt := pw_or1 ha
theorem pdw_and (ha : PDT X W a wt) (hb : PDW X W (.BoolOp .And (b :: rest) pos) wu) : PDW X W (.BoolOp .And (a :: b :: rest) pos) (wAnd wt wu) := imW (pw_and ha hb) fun σ H Q ⟨F, ρ, n, P, m, w, k⟩ => by
  refine ⟨F, ρ, n, _, m, w, fun b n1 F1 H1 c x1 m1 => ?_⟩
  cases b with
  | true => exact ⟨F1, ρ, n1, P, m1, c, fun r n' F' H' p x' m' => k r n' F' H' p (x1.trans x') m'⟩
  | false => exact k _ n1 F1 H1 c x1 m1
theorem pdw_or (ha : PDT X W a wt) (hb : PDW X W (.BoolOp .Or (b :: rest) pos) wu) : PDW X W (.BoolOp .Or (a :: b :: rest) pos) (wOr wt wu) := imW (pw_or ha hb) fun σ H Q ⟨F, ρ, n, P, m, w, k⟩ => by
  refine ⟨F, ρ, n, _, m, w, fun b n1 F1 H1 c x1 m1 => ?_⟩
  cases b with
  | true => exact k _ n1 F1 H1 c x1 m1
  | false => exact ⟨F1, ρ, n1, P, m1, c, fun r n' F' H' p x' m' => k r n' F' H' p (x1.trans x') m'⟩
theorem pdt_not (ha : PDT X W a wt) : PDT X W (.UnaryOp .Not a pos) (wNot wt) := imT (pt_not ha) fun σ H Q ⟨F, ρ, n, P, m, w, k⟩ =>
  ⟨F, ρ, n, _, m, w, fun b n1 F1 H1 c x1 m1 => k _ n1 F1 H1 c x1 m1⟩
def wIfE (wt : WT) (wa wb : WE) : WE := fun ρ n Q => wt ρ n fun b n1 => if b = true then wa ρ n1 Q else wb ρ n1 Q
theorem pd_if (hc : PDT X W c wt) (ha : PD X W a wa) (hb : PD X W b wb) : PD X W (.IfExp c a b pos) (wIfE wt wa wb) := imE (pe_ifExp hc ha hb) fun σ H Q ⟨F, ρ, n, P, m, w, k⟩ => by
  refine ⟨F, ρ, n, _, m, w, fun b n1 F1 H1 c x1 m1 => ?_⟩
  cases b with
  | true => exact ⟨F1, ρ, n1, P, m1, c, fun r n' u F' H' p x' m' rv => k r n' u F' H' p (x1.trans x') m' (rv.back x1.hs)⟩
  | false => exact ⟨F1, ρ, n1, P, m1, c, fun r n' u F' H' p x' m' rv => k r n' u F' H' p (x1.trans x') m' (rv.back x1.hs)⟩

/-! ### arguments, displays -/
def wNil : WA := fun _ n Q => Q [] n
def wCons (wa : WE) (wr : WA) : WA := fun ρ n Q => wa ρ n fun x n1 => wr ρ n1 fun xs n2 => Q (x.fr :: xs) n2
variable {ws : WA}
theorem pda_nil : PDA X W [] wNil := imA pa_nil fun σ H Q ⟨F, ρ, n, P, m, w, k⟩ => k [] n [] F H w .refl m .nil
theorem pda_cons (ha : PD X W e we) (hr : PDA X W es ws) (hs : starEach (e :: es) X.env = (false, eval e X.env) :: starEach es X.env := by rfl) : PDA X W (e :: es) (wCons we ws) := imA (pa_cons ha hr hs) fun σ H Q ⟨F, ρ, n, P, m, w, k⟩ => by
  refine ⟨F, ρ, n, _, m, w, fun x n1 v F1 H1 c x1 m1 r1 => ?_⟩
  obtain ⟨F2, x2, m2, r2, ff⟩ := Rv.freeze m m1 x1 r1
  refine ⟨F2, ρ, n1, _, m2, c, fun xs n2 vs F3 H3 c3 x3 m3 r3 => ?_⟩
  exact k _ n2 (v :: vs) F3 H3 c3 (x2.trans x3) m3 (.cons ((Rv.step m2 m.sg x3 r2).now (RV.fr_not _)) (RV.fr_not _) r3)
/-- all of it data -/
def RV.isFz : RV → Bool
  | .fz _ => true
  | _ => false
def RV.un : RV → D
  | .fz d => d
  | .tmp ds => .list ds
  | .bor ds => .list ds
  | .gen => .none
  | .scr _ => .none
theorem RA.fz {K : PySem.W.Frag} {F H : Hp} {vs : List V} {rs : List RV} (h : RA K W F H vs rs) (e : rs.all RV.isFz = true) : FzA K F vs (rs.map RV.un) := by
  induction h with
  | nil => exact .nil
  | @cons v r vs rs a t _ ih =>
    rw [List.all_cons, Bool.and_eq_true] at e
    refine .cons ?_ (ih e.2)
    cases r with
    | fz d => exact a
    | _ => exact absurd e.1 Bool.false_ne_true
def wTup (ws : WA) : WE := fun ρ n Q => ws ρ n fun rs n1 => rs.all RV.isFz = true ∧ rs.length ≤ sizeLine ∧ Q (.fz (.tuple (rs.map RV.un))) n1
def wLst (ws : WA) : WE := fun ρ n Q => ws ρ n fun rs n1 => rs.all RV.isFz = true ∧ rs.length ≤ sizeLine ∧ Q (.tmp (rs.map RV.un)) n1
theorem pd_tup {x1} (h : PDA X W es ws) : PD X W (.Tuple es x1 pos) (wTup ws) := imE (pe_tup h) fun σ H Q ⟨F, ρ, n, P, m, w, k⟩ => by
  refine ⟨F, ρ, n, _, m, w, fun rs n1 vs F1 H1 ⟨c1, c2, c⟩ x1 m1 r1 => ⟨by rw [r1.length]; exact c2, fun p hp => ?_⟩⟩
  have ff : Same F1 (upd F1 p (.tup vs)) := fun a u e => by rw [upd_ne (ne_of_none e (m1.nof hp))]; exact e
  exact fin k x1 m1 c (.frz hp) (show Fz X.K _ _ _ from .tup (.of upd_same) ((r1.fz c1).mono ff))
theorem pd_lst (h : PDA X W es ws) : PD X W (.List es pos) (wLst ws) := imE (pe_lst h) fun σ H Q ⟨F, ρ, n, P, m, w, k⟩ => by
  refine ⟨F, ρ, n, _, m, w, fun rs n1 vs F1 H1 ⟨c1, c2, c⟩ x1 m1 r1 => ⟨by rw [r1.length]; exact c2, fun p hp => ?_⟩⟩
  exact fin k x1 m1 c (.own hp) ⟨p, vs, rfl, hp, upd_same, m1.nof hp, r1.fz c1⟩

/-! ### built-ins by values -/
abbrev OC := List RV → (RV → Prop) → Prop
def CaD (X : Cx) (W : Wd) (f : Value) (o : OC) : Prop := ∃ r : List V → Hp → VK → Prop, CallR X f r ∧ ∀ (F H : Hp) (xs : List V) (rs : List RV) (P : RV → Prop) (Q : VK),
  Same F H → RA X.K W F H xs rs → o rs P → (∀ rz v F' H', P rz → Nxt F H F' H' → Rv X.K W H F' H' v rz → Q v H') → r xs H Q
def wCB (o : OC) (ws : WA) : WE := fun ρ n Q => ws ρ n fun rs n1 => o rs fun z => Q z n1
variable {x : Str} {p : Pos} {id T : String} {o : OC}
theorem pd_callB (hc : CaD X W (.builtin id) o) (hg : Gl X x) (hm : X.mg x = none) (hv : bootBuiltins x = some (.builtin id)) (ha : PDA X W (e :: es) ws) (hn : x ≠ "__name__" := by decide) (hdb : (x == ("__debug__" : Str)) = false := by decide)
    (he : starEach (e :: es) X.env = (false, eval e X.env) :: starEach es X.env := by rfl) (hpl : (backTo pos (starEach es X.env)).any (·.1) = false := by rfl) : PD X W (.Call (.Name x p) (e :: es) [] pos) (wCB o ws) := by
  obtain ⟨r, hr, so⟩ := hc
  refine imE (pe_callB hr hg hm hv ha hn hdb he hpl) fun σ H Q ⟨F, ρ, n, P, m, w, k⟩ => ?_
  refine ⟨F, ρ, n, _, m, w, fun rs n1 vs F1 H1 c x1 m1 r1 => ?_⟩
  exact so F1 H1 vs rs _ Q m1.fh r1 c fun rz z F' H' p nx rv => fin k x1 m1 p nx rv
theorem pd_callTy (hc : CaD X W (.type T) o) (hg : Gl X x) (hm : X.mg x = none) (hv : bootBuiltins x = some (.type T)) (ha : PDA X W (e :: es) ws) (hn : x ≠ "__name__" := by decide) (hdb : (x == ("__debug__" : Str)) = false := by decide)
    (he : starEach (e :: es) X.env = (false, eval e X.env) :: starEach es X.env := by rfl) (hpl : (backTo pos (starEach es X.env)).any (·.1) = false := by rfl) : PD X W (.Call (.Name x p) (e :: es) [] pos) (wCB o ws) := by
  obtain ⟨r, hr, so⟩ := hc
  refine imE (pe_callTy hr hg hm hv ha hn hdb he hpl) fun σ H Q ⟨F, ρ, n, P, m, w, k⟩ => ?_
  refine ⟨F, ρ, n, _, m, w, fun rs n1 vs F1 H1 c x1 m1 r1 => ?_⟩
  exact so F1 H1 vs rs _ Q m1.fh r1 c fun rz z F' H' p nx rv => fin k x1 m1 p nx rv

/-! ### subscripts, slices -/
def IxD (X : Cx) (W : Wd) (o : O2) : Prop := ∃ r : R2, IxR X r ∧ ∀ (Hs F H : Hp) (x y : V) (rx ry : RV) (P : RV → Prop) (Q : VK),
  Same F H → Rv X.K W Hs F H x rx → Rv X.K W Hs F H y ry → o rx ry P → (∀ rz v F' H', P rz → Nxt F H F' H' → Rv X.K W H F' H' v rz → Q v H') → r x y H Q
theorem pd_ix {o : O2} (ho : IxD X W o) (ha : PD X W a wa) (hb : PD X W b wb) (hs : PlainIx b) : PD X W (.Subscript a b pos) (wBin o wa wb) := by
  obtain ⟨r, hr, so⟩ := ho
  refine imE (pe_ix hr ha hb hs) fun σ H Q ⟨F, ρ, n, P, m, w, k⟩ => ?_
  refine two m w fun x y n2 v u F2 H2 c x2 m2 r1 r2 => ?_
  exact so H F2 H2 v u x y _ Q m2.fh r1 r2 c fun rz z F' H' p nx rv => fin k x2 m2 p nx rv
end
end DL

namespace DL
open PySem PySem.Spec PyProof.Rows L2

structure DE where
  nx : Rho → Nat → Prop
  rt : RV → Nat → Prop
  bk : Rho → Nat → Prop := fun _ _ => False
  ct : Rho → Nat → Prop := fun _ _ => False
abbrev WS := DE → Rho → Nat → Prop
def liftS (K : PySem.W.Frag) (W : Wd) (w : WS) : TS := fun D σ H => ∃ F ρ n DD, Mo K W F ρ n σ H ∧ w DD ρ n ∧
  (∀ F' ρ' n' σ' H', DD.nx ρ' n' → Same F F' → Mo K W F' ρ' n' σ' H' → D.nx σ' H') ∧ (∀ F' ρ' n' σ' H', DD.bk ρ' n' → Same F F' → Mo K W F' ρ' n' σ' H' → D.bk σ' H') ∧
  (∀ F' ρ' n' σ' H', DD.ct ρ' n' → Same F F' → Mo K W F' ρ' n' σ' H' → D.ct σ' H') ∧
  ∀ r n' v F' ρ' σ' H', DD.rt r n' → Same F F' → Mo K W F' ρ' n' σ' H' → Rv K W W.B F' H' v r → D.rt v H'
abbrev PDS (X : Cx) (W : Wd) (st : Stmt) (w : WS) : Prop := PS X st (liftS X.K W w)
abbrev PDSs (X : Cx) (W : Wd) (st : List Stmt) (w : WS) : Prop := PSs X st (liftS X.K W w)
/-- what a def hands back -/
def RV.ret : RV → RV
  | .bor ds => .tmp ds
  | r => r

section
variable {K : PySem.W.Frag} {W : Wd} {F H F' H' F1 H1 F2 H2 : Hp} {ρ : Rho} {n : Nat} {σ : L2.St}
theorem Rv.atRet {v : V} {r : RV} (m : Mo K W F ρ n σ H) (h : Rv K W H F' H' v r) : Rv K W W.B F' H' v r.ret := by
  cases r with
  | fz d => exact h
  | tmp ds =>
    obtain ⟨p, vs, e, hs, x⟩ := h
    exact ⟨p, vs, e, m.nob hs, x⟩
  | bor ds =>
    obtain ⟨p, vs, e, hp, fp, bp, _, fz⟩ := h
    exact ⟨p, vs, e, bp, hp, fp, fz⟩
  | gen => exact h
  | scr ns => exact h
/-- what a name is given -/
def RV.ev : RV → Option EV
  | .fz d => some (.fz d)
  | .tmp ds => some (.ol ds)
  | .gen => some .gen
  | .scr ns => some (.scr ns)
  | .bor _ => none
theorem set_get {α : Type} {l : List α} {i j : Nat} {a b : α} (h : (l.set i a)[j]? = some b) : (j = i ∧ i < l.length ∧ a = b) ∨ (j ≠ i ∧ l[j]? = some b) := by
  by_cases c : j = i
  · subst c
    by_cases hl : j < l.length
    · rw [List.getElem?_set_self hl] at h
      exact .inl ⟨rfl, hl, Option.some.inj h⟩
    · rw [List.getElem?_eq_none (by simpa using hl)] at h; cases h
  · rw [List.getElem?_set_ne (Ne.symm c)] at h
    exact .inr ⟨c, h⟩
/-- a slot is stored -/
theorem Mo.store {n0 : Nat} {F0 Hs : Hp} {i : Nat} {v : V} {r : RV} {e : EV} (m0 : Mo K W F0 ρ n0 σ Hs) (m : Mo K W F ρ n σ H) (h : Rv K W Hs F H v r) (he : r.ev = some e) : Mo K W F (ρ.set i (some e)) n (σ.set i (some v)) H := by
  have got : ∀ j, j = i → i < ρ.length → (σ.set i (some v))[j]? = some (some v) := fun j hj hl => by
    subst hj
    exact List.getElem?_set_self (Nat.lt_of_lt_of_le hl m.ln)
  refine ⟨by rw [List.length_set, List.length_set]; exact m.ln, m.f0, m.fh, m.bh, m.bs, m.fn, m.gn, fun j x hx => ?_, fun j k dj dk p h1 h2 h3 h4 => ?_⟩
  · rcases set_get hx with ⟨hj, hl, q⟩ | ⟨hj, q⟩
    · cases q
      refine ⟨v, got j hj hl, ?_⟩
      cases r with
      | fz d => cases he; exact h
      | tmp ds =>
        cases he
        obtain ⟨p, vs, e, hs, hp, fp, fz⟩ := h
        exact ⟨p, vs, e, hp, fp, m0.nob hs, m0.nog hs, fz⟩
      | bor ds => cases he
      | gen => cases he; exact h
      | scr ns => cases he; exact h
    · obtain ⟨u, hu, s⟩ := m.sl j x q
      exact ⟨u, by rw [List.getElem?_set_ne (Ne.symm hj)]; exact hu, s⟩
  · have old : ∀ (j : Nat) (d : List D), j ≠ i → ρ[j]? = some (some (EV.ol d)) → σ[j]? = some (some (V.ref p)) → v = .ref p → (∃ d', e = .ol d') → False := fun j d hj q hs hv ⟨d', hd⟩ => by
      subst hv
      cases r with
      | tmp ds =>
        obtain ⟨p', vs, e, hs', _⟩ := h
        cases e
        exact m0.slotIn hs' j d q hs
      | fz d => cases he; cases hd
      | bor ds => cases he
      | gen => cases he; cases hd
      | scr ns => cases he; cases hd
    rcases set_get h1 with ⟨hj, hl, q⟩ | ⟨hj, q⟩
    · rcases set_get h2 with ⟨hk, _, q'⟩ | ⟨hk, q'⟩
      · rw [hj, hk]
      · exfalso
        cases q
        rw [got j hj hl] at h3
        rw [List.getElem?_set_ne (Ne.symm hk)] at h4
        exact old k dk hk q' h4 (Option.some.inj (Option.some.inj h3)) ⟨_, rfl⟩
    · rw [List.getElem?_set_ne (Ne.symm hj)] at h3
      rcases set_get h2 with ⟨hk, hl, q'⟩ | ⟨hk, q'⟩
      · exfalso
        cases q'
        rw [got k hk hl] at h4
        exact old j dj hj q h3 (Option.some.inj (Option.some.inj h4)) ⟨_, rfl⟩
      · rw [List.getElem?_set_ne (Ne.symm hk)] at h4
        exact m.dj j k dj dk p q q' h3 h4
/-- a list of ours is changed -/
theorem Mo.write {i : Nat} {ds es : List D} {p : Addr} {vs : List V} (m : Mo K W F ρ n σ H) (hr : ρ[i]? = some (some (EV.ol ds))) (hs : σ[i]? = some (some (V.ref p))) (hf : FzA K F vs es) : Mo K W F (ρ.set i (some (.ol es))) n σ (upd H p (.lst vs)) := by
  have s0 := m.sl i (.ol ds) hr
  obtain ⟨v, hv, q, ws, e, hq, fq, bq, gq, _⟩ := s0
  rw [hs] at hv
  have ev : V.ref p = v := Option.some.inj (Option.some.inj hv)
  have eq : q = p := by rw [← ev] at e; injection e with e; exact e.symm
  subst eq
  refine ⟨by rw [List.length_set]; exact m.ln, m.f0, fun a u h => ?_, fun a u h g => ?_, fun a h => ?_, m.fn, fun z hz => ?_, fun j x hx => ?_, fun j k dj dk p' h1 h2 h3 h4 => ?_⟩
  · rw [upd_ne (ne_of_none h fq)]; exact m.fh a u h
  · rw [upd_ne (ne_of_none h bq)]; exact m.bh a u h g
  · by_cases c : a = q
    · subst c; rw [upd_same]; exact fun z => nomatch z
    · rw [upd_ne c]; exact m.bs a h
  · obtain ⟨a, gs, h, g⟩ := m.gn z hz
    refine ⟨a, gs, ?_, g⟩
    rw [upd_ne (fun c : z = q => gq (by rw [← c]; exact hz))]; exact h
  · rcases set_get hx with ⟨hj, hl, y⟩ | ⟨hj, y⟩
    · cases y
      subst hj
      exact ⟨_, hs, q, vs, rfl, upd_same, fq, bq, gq, hf⟩
    · obtain ⟨u, hu, s⟩ := m.sl j x y
      refine ⟨u, hu, ?_⟩
      cases x with
      | fz d => exact s
      | ol d =>
        obtain ⟨q2, w2, e2, h2, f2, b2, g2, z2⟩ := s
        refine ⟨q2, w2, e2, ?_, f2, b2, g2, z2⟩
        rw [upd_ne]
        · exact h2
        · intro c
          subst c; subst e2
          exact hj (m.dj j i d ds q2 y hr hu hs)
      | gen => exact s
      | scr ns => exact s
  · have back : ∀ (j : Nat) (d : List D), (ρ.set i (some (EV.ol es)))[j]? = some (some (EV.ol d)) → ∃ d', ρ[j]? = some (some (EV.ol d')) := fun j d h => by
      rcases set_get h with ⟨hj, _, _⟩ | ⟨_, y⟩
      · exact ⟨ds, by rw [hj]; exact hr⟩
      · exact ⟨d, y⟩
    obtain ⟨a, b1⟩ := back j dj h1
    obtain ⟨b, b2⟩ := back k dk h2
    exact m.dj j k a b p' b1 b2 h3 h4
/-- a list of ours is given up -/
def frz (i : Nat) (ρ : Rho) : Rho := match ρ[i]? with
  | some (some (.ol ds)) => ρ.set i (some (.fz (.list ds)))
  | _ => ρ
theorem Mo.putFz {i : Nat} {v : V} {d : D} (m : Mo K W F ρ n σ H) (hs : σ[i]? = some (some v)) (hf : Fz K F v d) : Mo K W F (ρ.set i (some (.fz d))) n σ H := by
  refine ⟨by rw [List.length_set]; exact m.ln, m.f0, m.fh, m.bh, m.bs, m.fn, m.gn, fun j x hx => ?_, fun j k dj dk p h1 h2 h3 h4 => ?_⟩
  · rcases set_get hx with ⟨hj, _, y⟩ | ⟨_, y⟩
    · cases y
      subst hj
      exact ⟨v, hs, hf⟩
    · exact m.sl j x y
  · rcases set_get h1 with ⟨_, _, y⟩ | ⟨_, y1⟩
    · cases y
    · rcases set_get h2 with ⟨_, _, y⟩ | ⟨_, y2⟩
      · cases y
      · exact m.dj j k dj dk p y1 y2 h3 h4
theorem Mo.give (i : Nat) (m : Mo K W F ρ n σ H) : ∃ F', Same F F' ∧ Mo K W F' (DL.frz i ρ) n σ H := by
  unfold DL.frz
  split
  · rename_i ds hr
    have s0 := m.sl i (.ol ds) hr
    obtain ⟨v, hv, p, vs, e, hp, fp, bp, gp, fz⟩ := s0
    subst e
    have ff : Same F (upd F p (.lst vs)) := fun a u e => by rw [upd_ne (ne_of_none e fp)]; exact e
    have mw : Mo K W F (ρ.set i none) n σ H := m.weak (by rw [List.length_set]; exact Nat.le_refl _) fun j e h => by
      rcases set_get h with ⟨_, _, y⟩ | ⟨_, y⟩
      · cases y
      · exact y
    have mf := mw.frz hp bp gp fp fun j d h z => by
      rcases set_get h with ⟨_, _, y⟩ | ⟨hj, y⟩
      · cases y
      · exact hj (m.dj j i d ds p y hr z hv)
    have q := mf.putFz hv (Fz.lst (K := K) upd_same (fz.mono ff))
    rw [List.set_set] at q
    exact ⟨_, ff, q⟩
  · exact ⟨F, Same.refl F, m⟩
/-- a step of another world (a callee's) is one of ours -/
theorem Mo.ext {n' : Nat} (m : Mo K W F ρ n σ H) (x : Ext W F H F' H') (fh : Same F' H') (g : GenAt W F' H' n') : Mo K W F' ρ n' σ H' := by
  refine ⟨m.ln, m.f0.trans x.ff, fh, fun a o e ng => x.hh a o (m.bh a o e ng) ng, fun a e => x.hs a (m.bs a e), fun a h1 h2 => x.nw a (m.bs a h1) (m.fn a h1 h2), g, fun i e hi => ?_, m.dj⟩
  obtain ⟨v, hv, s⟩ := m.sl i e hi
  exact ⟨v, hv, s.mono x fun a _ h1 h2 => x.nw a h1 h2⟩
end

/-! ### statements -/
section
variable {X : Cx} {W : Wd} {a b c e : Expr} {es : List Expr} {we : WE} {wt : WT} {ws : WA} {st : Stmt} {rest body orelse : List Stmt} {w w1 w2 : WS} {pos : Pos}
def wSkip : WS := fun D ρ n => D.nx ρ n
def wSeq (w1 w2 : WS) : WS := fun D ρ n => w1 { D with nx := w2 D } ρ n
theorem pds_nil : PDSs X W [] wSkip := imSs pss_nil fun σ H D ⟨F, ρ, n, DD, m, h, k, _⟩ => k F ρ n σ H h (Same.refl F) m
theorem pds_cons (h1 : PDS X W st w1) (h2 : PDSs X W rest w2) : PDSs X W (st :: rest) (wSeq w1 w2) := imSs (pss_cons h1 h2) fun σ H D ⟨F, ρ, n, DD, m, h, k1, k2, k3, k4⟩ =>
  ⟨F, ρ, n, { DD with nx := w2 DD }, m, h, fun F' ρ' n' σ' H' q s m' => ⟨F', ρ', n', DD, m', q, fun a b c d e f g => k1 a b c d e f (s.trans g), fun a b c d e f g => k2 a b c d e f (s.trans g), fun a b c d e f g => k3 a b c d e f (s.trans g), fun a b c d e f g h i => k4 a b c d e f g h (s.trans i)⟩, k2, k3, k4⟩
theorem pds_one (h1 : PDS X W st w1) : PDSs X W [st] w1 := pss_one h1
def wPass : WS := fun D ρ n => D.nx ρ n
theorem pds_pass : PDS X W (.Pass pos) wPass := imS ps_pass fun σ H D ⟨F, ρ, n, DD, m, h, k, _⟩ => k F ρ n σ H h (Same.refl F) m
def wBreak : WS := fun D ρ n => D.bk ρ n
theorem pds_break : PDS X W (.Break pos) wBreak := imS ps_break fun σ H D ⟨F, ρ, n, DD, m, h, _, k, _⟩ => k F ρ n σ H h (Same.refl F) m
def wCont : WS := fun D ρ n => D.ct ρ n
theorem pds_cont : PDS X W (.Continue pos) wCont := imS ps_continue fun σ H D ⟨F, ρ, n, DD, m, h, _, _, k, _⟩ => k F ρ n σ H h (Same.refl F) m
def wNever : WS := fun _ _ _ => False
theorem pds_never : PDS X W st wNever := imS ps_never fun σ H D ⟨F, ρ, n, DD, m, h, _⟩ => h.elim
theorem pdss_never {sts : List Stmt} : PDSs X W sts wNever := imSs pss_never fun σ H D ⟨F, ρ, n, DD, m, h, _⟩ => h.elim
def wRet (we : WE) : WS := fun D ρ n => we ρ n fun r n' => D.rt r.ret n'
theorem pds_ret (h : PD X W e we) : PDS X W (.Return (some e) pos) (wRet we) := imS (ps_ret h) fun σ H D ⟨F, ρ, n, DD, m, h, _, _, _, k⟩ =>
  ⟨F, ρ, n, _, m, h, fun r n' v F' H' q x m' rv => k _ n' v F' ρ σ H' q x.ff m' (rv.atRet m)⟩
def wRetN : WS := fun D _ n => D.rt (.fz .none) n
theorem pds_retN : PDS X W (.Return none pos) wRetN := imS ps_retN fun σ H D ⟨F, ρ, n, DD, m, h, _, _, _, k⟩ => k _ n _ F ρ σ H h (Same.refl F) m (show Fz X.K F V.non .none from .non)
def wDrop (we : WE) : WS := fun D ρ n => we ρ n fun _ n' => D.nx ρ n'
theorem pds_expr (h : PD X W e we) (hs : swapsWith e none pos.line X.env = pure false := by rfl) : PDS X W (.Expr e pos) (wDrop we) := imS (ps_expr h hs) fun σ H D ⟨F, ρ, n, DD, m, h, k, _⟩ =>
  ⟨F, ρ, n, _, m, h, fun r n' v F' H' q x m' rv => k F' ρ n' σ H' q x.ff m'⟩
def wIf (wt : WT) (w1 w2 : WS) : WS := fun D ρ n => wt ρ n fun b n' => if b = true then w1 D ρ n' else w2 D ρ n'
theorem pds_if (hc : PDT X W c wt) (ha : PDSs X W body w1) (hb : PDSs X W orelse w2) : PDS X W (.If c body orelse pos) (wIf wt w1 w2) := imS (ps_if hc ha hb) fun σ H D ⟨F, ρ, n, DD, m, h, k1, k2, k3, k4⟩ =>
  ⟨F, ρ, n, _, m, h, fun b n' F' H' q x m' => by
    cases b with
    | true => exact ⟨F', ρ, n', DD, m', q, fun a b c d e f g => k1 a b c d e f (x.ff.trans g), fun a b c d e f g => k2 a b c d e f (x.ff.trans g), fun a b c d e f g => k3 a b c d e f (x.ff.trans g), fun a b c d e f g h i => k4 a b c d e f g h (x.ff.trans i)⟩
    | false => exact ⟨F', ρ, n', DD, m', q, fun a b c d e f g => k1 a b c d e f (x.ff.trans g), fun a b c d e f g => k2 a b c d e f (x.ff.trans g), fun a b c d e f g => k3 a b c d e f (x.ff.trans g), fun a b c d e f g h i => k4 a b c d e f g h (x.ff.trans i)⟩⟩
def wSet (i : Nat) (we : WE) : WS := fun D ρ n => we ρ n fun r n' => match r.ev with
  | some ev => D.nx (ρ.set i (some ev)) n'
  | none => False
theorem pds_set {i : Nat} {x : Str} {pos' : Pos} (hN : X.N.Nodup) (hi : X.N[i]? = some x) (hx : Loc X.env.scope x) (he : PD X W e we) (hs : swapsWith e (some (.Name x pos')) pos.line X.env = pure false := by rfl)
    (hf : X.fn x = true ∨ X.env.scope.names.lookup x = some .local := by first | exact .inl rfl | exact .inr rfl | assumption) : PDS X W (.Assign [.Name x pos'] e pos) (wSet i we) := imS (ps_set hN hi hx he hs hf) fun σ H D ⟨F, ρ, n, DD, m, h, k, _⟩ =>
  ⟨F, ρ, n, _, m, h, fun r n' v F' H' q x m' rv => by
    split at q
    · rename_i ev hev
      exact k F' _ n' _ H' q x.ff (Mo.store m m' rv hev)
    · exact q.elim⟩
/-- a ghost step ahead of a block: a list of ours is given up -/
def wFrz (i : Nat) (w : WS) : WS := fun D ρ n => w D (frz i ρ) n
theorem pdss_frz (i : Nat) {sts : List Stmt} (h : PDSs X W sts w) : PDSs X W sts (wFrz i w) := imSs h fun σ H D ⟨F, ρ, n, DD, m, h, k1, k2, k3, k4⟩ => by
  obtain ⟨F', ff, m'⟩ := m.give i
  exact ⟨F', DL.frz i ρ, n, DD, m', h, fun a b c d e f g => k1 a b c d e f (ff.trans g), fun a b c d e f g => k2 a b c d e f (ff.trans g), fun a b c d e f g => k3 a b c d e f (ff.trans g), fun a b c d e f g h i => k4 a b c d e f g h (ff.trans i)⟩
/-- x.append(e) at a list of ours -/
def wApp (i : Nat) (we : WE) : WS := fun D ρ n => match ρ[i]? with
  | some (some (.ol ds)) => we ρ n fun r n' => r.fr.isFz = true ∧ ds.length < sizeLine ∧ D.nx (ρ.set i (some (.ol (ds ++ [r.fr.un])))) n'
  | _ => False
theorem pds_app {i : Nat} {o : Expr} {apos cpos : Pos} (ho : PE X o (tVar i)) (he : PD X W e we)
    (h : ∀ {to : TE} {t : TA}, PE X o to → PA X [e] t → PS X (.Expr (.Call (.Attribute o "append" apos) [e] [] cpos) pos) (tDrop (tBM X.K "list" rAppend to t)) := by intro _ _ a b; exact ps_expr (pe_bm PySem.F.plainAttrs_list PySem.F.slot_list_append PySem.F.type_list_append mt_append a b))
    (hs : starEach [e] X.env = (false, eval e X.env) :: starEach [] X.env := by rfl) :
    PDS X W (.Expr (.Call (.Attribute o "append" apos) [e] [] cpos) pos) (wApp i we) := by
  refine imS (h ho (pda_cons he pda_nil hs)) fun σ H D ⟨F, ρ, n, DD, m, q, k, _⟩ => ?_
  unfold wApp at q
  split at q
  · rename_i ds hr
    have s0 := m.sl i (.ol ds) hr
    obtain ⟨v, hv, p, vs, ev, hp, fp, bp, gp, fz⟩ := s0
    subst ev
    refine ⟨_, hv, .inl ⟨rfl, vs, .of hp⟩, F, ρ, n, (fun rs n' => match rs with
      | [r] => r.isFz = true ∧ ds.length < sizeLine ∧ DD.nx (ρ.set i (some (.ol (ds ++ [r.un])))) n'
      | _ => False), m, q, fun rs n1 us F1 H1 q1 x1 m1 r1 => ?_⟩
    have hp1 := x1.hh p _ hp gp
    cases r1 with
    | nil => exact q1.elim
    | @cons u r us rs a t r2 =>
      cases r2 with
      | cons _ _ _ => exact q1.elim
      | nil =>
        obtain ⟨c1, c2, c3⟩ := q1
        have fu : Fz X.K F1 u r.un := by
          cases r with
          | fz d => exact a
          | _ => exact absurd c1 Bool.false_ne_true
        refine ⟨p, vs, u, rfl, rfl, hp1, by rw [fz.length]; exact c2, ?_⟩
        exact k _ _ _ _ _ c3 x1.ff (m1.write hr hv ((fz.mono x1.ff).append (.one fu)))
  · exact q.elim

/-! ### while -/
def wWhile (wt : WT) (w : WS) : WS := fun D ρ n => Stop (∃ I : Nat → Rho → Nat → Prop, (∃ m, I m ρ n) ∧ ∀ m ρ n, I m ρ n →
  wt ρ n fun b n1 => if b = true then w { D with nx := fun ρ' n' => ∃ m', m' < m ∧ I m' ρ' n', ct := fun ρ' n' => ∃ m', m' < m ∧ I m' ρ' n', bk := D.nx } ρ n1 else D.nx ρ n1) ⟨⟩
theorem pds_while (hp : PassesOwn (model X.prog X.w) X.A X.env X.xe) (hc : PDT X W c wt) (hb : PDSs X W body w) : PDS X W (.While c body [] pos) (wWhile wt w) := imS (ps_while hp hc hb) fun σ H D ⟨F, ρ, n, DD, m, ⟨I, ⟨m0, i0⟩, turn⟩, k1, k2, k3, k4⟩ => by
  refine ⟨fun m' σ' H' => ∃ F' ρ' n', Same F F' ∧ Mo X.K W F' ρ' n' σ' H' ∧ I m' ρ' n', ⟨m0, F, ρ, n, Same.refl F, m, i0⟩, ?_⟩
  rintro m1 σ1 H1 ⟨F1, ρ1, n1, s1, mo1, i1⟩
  refine ⟨F1, ρ1, n1, _, mo1, turn m1 ρ1 n1 i1, fun b n2 F2 H2 q x2 mo2 => ?_⟩
  have s2 := s1.trans x2.ff
  cases b with
  | true =>
    refine iteT ?_
    (try dsimp only at q)
    rw [if_pos rfl] at q
    refine ⟨fun σ' H' => ∃ F' ρ' n', Same F F' ∧ Mo X.K W F' ρ' n' σ' H' ∧ ∃ m', m' < m1 ∧ I m' ρ' n', fun σ' H' ⟨F', ρ', n', s', mo', m', lt, i'⟩ => ⟨m', lt, F', ρ', n', s', mo', i'⟩, F2, ρ1, n2, _, mo2, q, ?_, ?_, ?_, ?_⟩
    · exact fun F' ρ' n' σ' H' h s mo' => ⟨F', ρ', n', s2.trans s, mo', h⟩
    · exact fun a b c d e f g => k1 a b c d e f (s2.trans g)
    · exact fun F' ρ' n' σ' H' h s mo' => ⟨F', ρ', n', s2.trans s, mo', h⟩
    · exact fun a b c d e f g h i => k4 a b c d e f g h (s2.trans i)
  | false =>
    refine iteF ?_
    (try dsimp only at q)
    rw [if_neg Bool.false_ne_true] at q
    exact k1 F2 ρ1 n2 σ1 H2 q s2 mo2

/-! ### targets -/
abbrev WG := D → Rho → (Rho → Prop) → Prop
abbrev WGs := List D → Rho → (Rho → Prop) → Prop
def off (js : List Nat) (σ σ' : L2.St) : Prop := σ'.length = σ.length ∧ ∀ j, j ∉ js → σ'[j]? = σ[j]?
def liftG (K : PySem.W.Frag) (W : Wd) (js : List Nat) (w : WG) : TG := fun v σ H Q => ∃ F ρ n d P, Mo K W F ρ n σ H ∧ Fz K F v d ∧ w d ρ P ∧ ∀ ρ' σ', P ρ' → off js σ σ' → Mo K W F ρ' n σ' H → Q σ' H
def liftGs (K : PySem.W.Frag) (W : Wd) (js : List Nat) (w : WGs) : TGs := fun vs σ H Q => ∃ F ρ n ds P, Mo K W F ρ n σ H ∧ FzA K F vs ds ∧ w ds ρ P ∧ ∀ ρ' σ', P ρ' → off js σ σ' → Mo K W F ρ' n σ' H → Q σ' H
abbrev PDG (X : Cx) (W : Wd) (tg : Expr) (js : List Nat) (w : WG) : Prop := PG X tg (liftG X.K W js w)
abbrev PDGs (X : Cx) (W : Wd) (tgs : List Expr) (js : List Nat) (w : WGs) : Prop := PGs X tgs (liftGs X.K W js w)
theorem imG {X : Cx} {e : Expr} {t t' : TG} (h : PG X e t) (i : ∀ v σ H Q, t' v σ H Q → t v σ H Q) : PG X e t' := ⟨fun pins s σ H v u Q I r q => h.run pins s σ H v u Q I r (i v σ H Q q)⟩
theorem imGs {X : Cx} {e : List Expr} {t t' : TGs} (h : PGs X e t) (i : ∀ v σ H Q, t' v σ H Q → t v σ H Q) : PGs X e t' := ⟨fun pins s σ H v u Q I r q => h.run pins s σ H v u Q I r (i v σ H Q q)⟩
def wgN (i : Nat) : WG := fun d ρ P => P (ρ.set i (some (.fz d)))
theorem pdg_name {i : Nat} (h : PG X e (gName i)) : PDG X W e [i] (wgN i) := imG h fun v σ H Q ⟨F, ρ, n, d, P, m, f, q, k⟩ => by
  refine k _ _ q ⟨by rw [List.length_set], fun j hj => ?_⟩ (Mo.store (r := .fz d) m m f rfl)
  rw [List.getElem?_set_ne]
  intro c
  exact hj (by rw [c]; exact List.mem_singleton.mpr rfl)
def wgNil : WGs := fun ds ρ P => ds = [] ∧ P ρ
def wgCons (w : WG) (ws : WGs) : WGs := fun ds ρ P => match ds with
  | d :: ds => w d ρ fun ρ' => ws ds ρ' P
  | [] => False
theorem pdgs_nil : PDGs X W [] [] wgNil := imGs pgs_nil fun v σ H Q ⟨F, ρ, n, ds, P, m, f, ⟨q1, q2⟩, k⟩ => by
  subst q1
  cases f
  exact ⟨rfl, k ρ σ q2 ⟨rfl, fun _ _ => rfl⟩ m⟩
theorem pdgs_cons {js ks : List Nat} {w : WG} {ws : WGs} (h1 : PDG X W e js w) (h2 : PDGs X W es ks ws) (hs : (assignEach (e :: es) X.env).map (·.2) = assign e X.env :: (assignEach es X.env).map (·.2) := by rfl) : PDGs X W (e :: es) (js ++ ks) (wgCons w ws) := imGs (pgs_cons h1 h2 hs) fun v σ H Q ⟨F, ρ, n, ds, P, m, f, q, k⟩ => by
  cases f with
  | nil => exact q.elim
  | @cons v d vs ds fv fs =>
    refine ⟨v, vs, rfl, F, ρ, n, d, _, m, fv, q, fun ρ' σ' q' o' m' => ?_⟩
    refine ⟨F, ρ', n, ds, P, m', fs, q', fun ρ2 σ2 q2 o2 m2 => k ρ2 σ2 q2 ⟨o2.1.trans o'.1, fun j hj => ?_⟩ m2⟩
    rw [o2.2 j fun z => hj (List.mem_append_right _ z), o'.2 j fun z => hj (List.mem_append_left _ z)]
def wgTup (n : Nat) (ws : WGs) : WG := fun d ρ P => match d with
  | .tuple ds => ds.length = n ∧ ws ds ρ P
  | _ => False
theorem pdg_tup {k n : Nat} {js : List Nat} {ws : WGs} (hc : X.calm = true) (h : PDGs X W es js ws) (hn : (assignEach es X.env).length = n := by rfl) (hst : (assignEach es X.env).findIdx? (·.1) = none := by rfl) : PDG X W (.Tuple es k pos) js (wgTup n ws) := imG (pg_tup hc h hn hst) fun v σ H Q ⟨F, ρ, n, d, P, m, f, q, k⟩ => by
  unfold wgTup at q
  cases f with
  | @tup a xs ds h1 h2 => exact ⟨a, xs, rfl, same_t m.fh h1, by rw [h2.length]; exact q.1, F, ρ, n, ds, P, m, h2, q.2, k⟩
  | _ => exact q.elim
/-- (a, b, ..) = e -/
def wAsg (we : WE) (wg : WG) : WS := fun D ρ n => we ρ n fun r n' => r.fr.isFz = true ∧ wg r.fr.un ρ fun ρ' => D.nx ρ' n'
theorem pds_asg {tg : Expr} {js : List Nat} {wg : WG} (he : PD X W e we) (hg : PDG X W tg js wg) (hs : swapsWithSole [tg] e pos.line X.env = pure false := by rfl) (hw : swappedStores [tg] e X.env = pure none := by rfl)
    (h1 : (assignEach [tg] X.env).map (·.2) = [assign tg X.env] := by rfl) : PDS X W (.Assign [tg] e pos) (wAsg we wg) := imS (ps_asg he hg hs hw h1) fun σ H D ⟨F, ρ, n, DD, m, h, k, _⟩ =>
  ⟨F, ρ, n, _, m, h, fun r n' v F' H' ⟨c, q⟩ x m' rv => by
    obtain ⟨F2, x2, m2, r2, _⟩ := Rv.freeze m m' x rv
    have f2 : Fz X.K F2 v r.fr.un := by
      cases hr : r.fr with
      | fz d => rw [hr] at r2; exact r2
      | _ => rw [hr] at c; cases c
    exact ⟨F2, ρ, n', _, _, m2, f2, q, fun ρ' σ' q' o' m3 => k F2 ρ' n' σ' H' q' x2.ff m3⟩⟩

/-! ### what a for walks -/
abbrev WI := Rho → Nat → (List D → Nat → Prop) → Prop
def Wk (K : PySem.W.Frag) (W : Wd) (F1 : Hp) (J : It) (items : List D) : Prop := ∀ F ρ n σ H, Same F1 F → Mo K W F ρ n σ H →
  (∀ i d, items[i]? = some d → J.go i H ∧ ∀ x H', J.yld i H x H' → ∃ F', Ext W F H F' H' ∧ Mo K W F' ρ n σ H' ∧ Fz K F' x d) ∧ ∀ i, items.length ≤ i → J.stop i H
def liftI (K : PySem.W.Frag) (W : Wd) (w : WI) : TI := fun σ H R => ∃ F ρ n P, Mo K W F ρ n σ H ∧ w ρ n P ∧ ∀ items n' F' H' J, P items n' → Ext W F H F' H' → Mo K W F' ρ n' σ H' → Wk K W F' J items → R J H'
abbrev PDI (X : Cx) (W : Wd) (tg iter : Expr) (w : WI) : Prop := PI X tg iter (liftI X.K W w)
theorem imI {X : Cx} {tg e : Expr} {t t' : TI} (h : PI X tg e t) (i : ∀ σ H Q, t' σ H Q → t σ H Q) : PI X tg e t' := ⟨fun pins s σ H Q I q => h.run pins s σ H Q I (i σ H Q q)⟩
/-- a list or tuple of data -/
def wiSeq (we : WE) : WI := fun ρ n Q => we ρ n fun r n' => match r.fr with
  | .fz (.list ds) => Q ds n'
  | _ => False
def wiTup (we : WE) : WI := fun ρ n Q => we ρ n fun r n' => match r with
  | .fz (.tuple ds) => Q ds n'
  | _ => False
def wiStr (we : WE) : WI := fun ρ n Q => we ρ n fun r n' => match r with
  | .fz (.str z) => Q (z.cps.toList.map fun c => .str ⟨#[c]⟩) n'
  | _ => False
end
end DL

namespace DL
open PySem PySem.Spec PyProof.Rows L2

section
variable {K : PySem.W.Frag} {W : Wd} {F F1 H : Hp} {ρ : Rho} {n : Nat} {σ : L2.St}
theorem wk_list {a : Addr} {xs : List V} {ds : List D} (h : F1 a = some (.lst xs)) (f : FzA K F1 xs ds) : Wk K W F1 (Itl K a) ds := fun F ρ n σ H ff m => by
  have hs : SqL K H a xs := .of (m.fh _ _ (ff _ _ h))
  refine ⟨fun i d hd => ?_, fun i hi => ⟨xs, hs, by rw [f.length]; exact hi⟩⟩
  obtain ⟨v, hv, fv⟩ := f.get hd
  refine ⟨⟨xs, v, hs, hv⟩, fun x H' ⟨e, y⟩ => ?_⟩
  subst e
  have q := y xs hs
  rw [hv] at q
  cases q
  exact ⟨F, .refl, m, Fz.mono ff fv⟩
theorem wk_tup {a : Addr} {xs : List V} {ds : List D} (h : SqT K F1 a xs) (f : FzA K F1 xs ds) : Wk K W F1 (Itt K a) ds := fun F ρ n σ H ff m => by
  have hs : SqT K H a xs := same_t m.fh (same_t ff h)
  refine ⟨fun i d hd => ?_, fun i hi => ⟨xs, hs, by rw [f.length]; exact hi⟩⟩
  obtain ⟨v, hv, fv⟩ := f.get hd
  refine ⟨⟨xs, v, hs, hv⟩, fun x H' ⟨e, y⟩ => ?_⟩
  subst e
  have q := y xs hs
  rw [hv] at q
  cases q
  exact ⟨F, .refl, m, Fz.mono ff fv⟩
def signs (z : Str) : List D := z.cps.toList.map fun c => .str ⟨#[c]⟩
theorem wk_str {z : Str} : Wk K W F1 (Its z) (signs z) := fun F ρ n σ H ff m => by
  refine ⟨fun i d hd => ?_, fun i hi => show z.cps.size ≤ i by simpa [signs] using hi⟩
  unfold signs at hd
  rw [List.getElem?_map, Array.getElem?_toList] at hd
  cases hc : z.cps[i]? with
  | none => rw [hc] at hd; cases hd
  | some c =>
    rw [hc] at hd
    cases hd
    refine ⟨(Array.getElem?_eq_some_iff.mp hc).1, fun x H' ⟨e, c', hc', ex⟩ => ?_⟩
    subst e ex
    rw [hc] at hc'
    cases hc'
    exact ⟨F, .refl, m, .str _⟩
def span (lo : Int) (k : Nat) : List D := (List.range k).map fun i => .int (lo + (i : Nat))
theorem wk_range {lo : Int} {k : Nat} : Wk K W F1 (Itr lo k) (span lo k) := fun F ρ n σ H ff m => by
  refine ⟨fun i d hd => ?_, fun i hi => show k ≤ i by simpa [span] using hi⟩
  unfold span at hd
  rw [List.getElem?_map] at hd
  have hi : i < k := by
    cases q : (List.range k)[i]? with
    | none => rw [q] at hd; cases hd
    | some j =>
      have := (List.getElem?_eq_some_iff.mp q).1
      simpa using this
  rw [List.getElem?_range hi] at hd
  cases hd
  refine ⟨hi, fun x H' ⟨e, ex⟩ => ?_⟩
  subst e ex
  exact ⟨F, .refl, m, .int _⟩
/-- a new pair at a turn -/
theorem mo_pair {T : Addr} {x y : V} {d e : D} (m : Mo K W F ρ n σ H) (h : H T = none) (hx : Fz K F x d) (hy : Fz K F y e) :
    ∃ F', Ext W F H F' (upd H T (.tup [x, y])) ∧ Mo K W F' ρ n σ (upd H T (.tup [x, y])) ∧ Fz K F' (.ref T) (.tuple [d, e]) := by
  obtain ⟨x', m'⟩ := Nxt.ok m (Nxt.frz (p := T) (o := .tup [x, y]) h)
  exact ⟨_, x', m', .tup (.of upd_same) (.cons (hx.mono x'.ff) (.one (hy.mono x'.ff)))⟩
def numbered (ds : List D) : List D := (List.range ds.length).zipWith (fun i d => .tuple [.int (i : Nat), d]) ds
theorem wk_enum {a : Addr} {xs : List V} {ds : List D} (h : F1 a = some (.lst xs)) (f : FzA K F1 xs ds) : Wk K W F1 (Ite K a) (numbered ds) := fun F ρ n σ H ff m => by
  have hs : SqL K H a xs := .of (m.fh _ _ (ff _ _ h))
  refine ⟨fun i d hd => ?_, fun i hi => ⟨xs, hs, by rw [f.length]; simpa [numbered] using hi⟩⟩
  unfold numbered at hd
  rw [List.getElem?_zipWith] at hd
  have hi : i < ds.length := by
    cases q : ds[i]? with
    | none => rw [q] at hd; split at hd <;> simp_all
    | some j => exact (List.getElem?_eq_some_iff.mp q).1
  rw [List.getElem?_range hi, List.getElem?_eq_getElem hi] at hd
  cases hd
  obtain ⟨v, hv, fv⟩ := f.get (List.getElem?_eq_getElem hi)
  refine ⟨⟨xs, v, hs, hv⟩, fun x H' ⟨T, y, ex, hT, eH, hy⟩ => ?_⟩
  subst ex eH
  have q := hy xs hs
  rw [hv] at q
  cases q
  exact mo_pair m hT (.int _) (Fz.mono ff fv)
def paired (ds es : List D) : List D := ds.zipWith (fun d e => .tuple [d, e]) es
theorem wk_zip {a b : Addr} {xs ys : List V} {ds es : List D} (h : F1 a = some (.lst xs)) (f : FzA K F1 xs ds) (h' : F1 b = some (.lst ys)) (f' : FzA K F1 ys es) : Wk K W F1 (Itz K a b) (paired ds es) := fun F ρ n σ H ff m => by
  have hs : SqL K H a xs := .of (m.fh _ _ (ff _ _ h))
  have hs' : SqL K H b ys := .of (m.fh _ _ (ff _ _ h'))
  refine ⟨fun i d hd => ?_, fun i hi => ⟨xs, ys, hs, hs', ?_⟩⟩
  · unfold paired at hd
    rw [List.getElem?_zipWith] at hd
    cases q1 : ds[i]? with
    | none => rw [q1] at hd; cases hd
    | some d1 =>
      cases q2 : es[i]? with
      | none => rw [q1, q2] at hd; cases hd
      | some e1 =>
        rw [q1, q2] at hd
        cases hd
        obtain ⟨v, hv, fv⟩ := f.get q1
        obtain ⟨u, hu, fu⟩ := f'.get q2
        refine ⟨⟨xs, ys, v, u, hs, hs', hv, hu⟩, fun x H' ⟨T, y, z, ex, hT, eH, hy, hz⟩ => ?_⟩
        subst ex eH
        have q := hy xs hs
        rw [hv] at q
        cases q
        have q := hz ys hs'
        rw [hu] at q
        cases q
        exact mo_pair m hT (Fz.mono ff fv) (Fz.mono ff fu)
  · rw [f.length, f'.length]
    have : min ds.length es.length ≤ i := by simpa [paired] using hi
    omega
end

/-! ### what is walked, by rules -/
section
variable {X : Cx} {W : Wd} {a b c e : Expr} {es : List Expr} {we : WE} {wt : WT} {ws : WA} {wi : WI} {wg : WG} {pos : Pos} {tg : Expr} {body : List Stmt} {w : WS}
/-- a list, a tuple or a text -/
def iAny (K : PySem.W.Frag) (te : TE) : TI := fun σ H R => te σ H fun x H1 => (∃ a xs, x = .ref a ∧ SqL K H1 a xs ∧ R (Itl K a) H1) ∨ (∃ a xs, x = .ref a ∧ SqT K H1 a xs ∧ R (Itt K a) H1) ∨ ∃ z, x = .str z ∧ R (Its z) H1
theorem pi_any {te : TE} (he : PE X e te) : PI X tg e (iAny X.K te) := by
  refine ⟨fun pins s σ H R I h => ?_⟩
  refine thn (he.run pins s σ H _ I h) fun v s1 ⟨x, H1, I1, r1, q1⟩ => ?_
  rcases q1 with ⟨a, xs, ex, hq, q⟩ | ⟨a, xs, ex, hq, q⟩ | ⟨z, ex, q⟩
  · subst ex
    cases r1
    obtain ⟨its, rv, p, hz⟩ := I1.list hq
    refine wpAny_pyIter_list p.isList ?_
    refine ⟨s1.heap.objs.size, [s1.heap.objs.size], _, _, H1, rfl, I1.kept (t' := s1.toks) fun b o e => Heap.get?_push_of_some _ e, turn_list a _, ⟨_, Heap.get?_push_size _ rfl, rfl, rfl⟩, fun b hb => ?_, q⟩
    have e : b = s1.heap.objs.size := by simpa using hb
    subst e
    exact I1.fpOk (Nat.le_refl _) (I1.hok.fresh (Nat.le_refl _))
  · subst ex
    cases r1
    obtain ⟨its, rv, p, hz⟩ := I1.tuple hq
    refine wpAny_pyIter_tuple (show s1.heap.IsTuple a its.toArray from p) ?_
    refine ⟨s1.heap.objs.size, [s1.heap.objs.size], _, _, H1, rfl, I1.kept (t' := s1.toks) fun b o e => Heap.get?_push_of_some _ e, turn_tuple a _, ⟨_, Heap.get?_push_size _ rfl, rfl, rfl⟩, fun b hb => ?_, q⟩
    have e : b = s1.heap.objs.size := by simpa using hb
    subst e
    exact I1.fpOk (Nat.le_refl _) (I1.hok.fresh (Nat.le_refl _))
  · subst ex
    obtain ⟨t, rfl⟩ := r1
    cases ha : z.cps.all (· < 128)
    · exact wpAny_pyIter_wide ha (pi_one (tk := s1.toks) I1 _ (turn_str _ z t "str_iterator" (.inr rfl)) ⟨_, Heap.get?_push_size _ rfl, rfl, rfl⟩ q)
    · exact wpAny_pyIter_ascii ha (pi_one (tk := s1.toks) I1 _ (turn_str _ z t "str_ascii_iterator" (.inl rfl)) ⟨_, Heap.get?_push_size _ rfl, rfl, rfl⟩ q)
def walk : D → Option (List D)
  | .list ds => some ds
  | .tuple ds => some ds
  | .str z => some (signs z)
  | _ => none
def wiAny (we : WE) : WI := fun ρ n Q => we ρ n fun r n' => match r.fr with
  | .fz d => match walk d with
    | some ds => Q ds n'
    | none => False
  | _ => False
theorem pdi_any (he : PD X W e we) : PDI X W tg e (wiAny we) := imI (pi_any he) fun σ H R ⟨F, ρ, n, P, m, h, k⟩ => by
  refine ⟨F, ρ, n, _, m, h, fun r n' v F' H' q x m' rv => ?_⟩
  obtain ⟨F2, x2, m2, r2, _⟩ := Rv.freeze m m' x rv
  cases hr : r.fr with
  | fz d =>
    rw [hr] at r2 q
    dsimp only at q
    split at q
    · rename_i ds hw
      cases r2 with
      | @lst a xs es h1 h2 => cases hw; exact .inl ⟨a, xs, rfl, .of (m2.fh _ _ h1), k _ n' F2 H' _ q x2 m2 (wk_list h1 h2)⟩
      | @tup a xs es h1 h2 => cases hw; exact .inr (.inl ⟨a, xs, rfl, same_t m2.fh h1, k _ n' F2 H' _ q x2 m2 (wk_tup h1 h2)⟩)
      | str z => cases hw; exact .inr (.inr ⟨z, rfl, k _ n' F2 H' _ q x2 m2 wk_str⟩)
      | _ => cases hw
    · exact q.elim
  | _ => rw [hr] at q; exact q.elim
def wiRng1 (we : WE) : WI := fun ρ n Q => we ρ n fun r n' => match r with
  | .fz (.int j) => (-(2 ^ 62) ≤ j ∧ j < 2 ^ 62) ∧ Q (span 0 j.toNat) n'
  | _ => False
theorem pdi_range1 {p : Pos} (hg : Gl X "range") (hm : X.mg "range" = none) (ha : PD X W a we) (hs : starEach [a] X.env = [(false, eval a X.env)] := by rfl) : PDI X W tg (.Call (.Name "range" p) [a] [] pos) (wiRng1 we) :=
  imI (pi_range1 hg hm (pa_cons ha pa_nil hs) hs) fun σ H R ⟨F, ρ, n, P, m, h, k⟩ => by
  refine ⟨F, ρ, n, _, m, h, fun r n' v F' H' q x m' rv => ?_⟩
  split at q
  · rename_i j
    exact ⟨j, by rw [rv.int rfl], q.1.1, q.1.2, k _ n' F' H' _ q.2 x m' wk_range⟩
  · exact q.elim
def wiRng2 (wa wb : WE) : WI := fun ρ n Q => wa ρ n fun r n1 => wb ρ n1 fun r' n2 => match r, r' with
  | .fz (.int i), .fz (.int j) => (-(2 ^ 62) ≤ i ∧ i < 2 ^ 62 ∧ -(2 ^ 62) ≤ j ∧ j < 2 ^ 62) ∧ Q (span i (j - i).toNat) n2
  | _, _ => False
theorem pdi_range2 {wa wb : WE} {p : Pos} (hg : Gl X "range") (hm : X.mg "range" = none) (ha : PD X W a wa) (hb : PD X W b wb) (hs : starEach [a, b] X.env = [(false, eval a X.env), (false, eval b X.env)] := by rfl) (hs2 : starEach [b] X.env = [(false, eval b X.env)] := by rfl) :
    PDI X W tg (.Call (.Name "range" p) [a, b] [] pos) (wiRng2 wa wb) :=
  imI (pi_range2 hg hm (pa_cons ha (pa_cons hb pa_nil hs2) (by rw [hs, hs2])) hs hs2) fun σ H R ⟨F, ρ, n, P, m, h, k⟩ => by
  refine two (C := fun r r' n2 => match r, r' with
    | .fz (.int i), .fz (.int j) => (-(2 ^ 62) ≤ i ∧ i < 2 ^ 62 ∧ -(2 ^ 62) ≤ j ∧ j < 2 ^ 62) ∧ P (span i (j - i).toNat) n2
    | _, _ => False) m h fun x y n2 v u F2 H2 c x2 m2 r1 r2 => ?_
  split at c
  · rename_i i j
    exact ⟨i, j, by rw [r1.int rfl, r2.int rfl], c.1, k _ n2 F2 H2 _ c.2 x2 m2 wk_range⟩
  · exact c.elim
def wiEnum (we : WE) : WI := fun ρ n Q => we ρ n fun r n' => match r.fr with
  | .fz (.list ds) => Q (numbered ds) n'
  | _ => False
theorem pdi_enum {p tpos : Pos} {elts : List Expr} {kk : Nat} (hg : Gl X "enumerate") (hm : X.mg "enumerate" = none) (ha : PD X W e we) (hs : starEach [e] X.env = [(false, eval e X.env)] := by rfl) :
    PDI X W (.Tuple elts kk tpos) (.Call (.Name "enumerate" p) [e] [] pos) (wiEnum we) := imI (pi_enum hg hm (pa_cons ha pa_nil hs) hs) fun σ H R ⟨F, ρ, n, P, m, h, k⟩ => by
  refine ⟨F, ρ, n, _, m, h, fun r n' v F' H' q x m' rv => ?_⟩
  obtain ⟨F2, x2, m2, r2, _⟩ := Rv.freeze m m' x rv
  split at q
  · rename_i ds hr
    rw [hr] at r2
    cases r2 with
    | @lst a xs es h1 h2 => exact ⟨a, xs, rfl, .of (m2.fh _ _ h1), k _ n' F2 H' _ q x2 m2 (wk_enum h1 h2)⟩
  · exact q.elim
def wiZip (wa wb : WE) : WI := fun ρ n Q => wa ρ n fun r n1 => wb ρ n1 fun r' n2 => match r.fr, r'.fr with
  | .fz (.list ds), .fz (.list es) => Q (paired ds es) n2
  | _, _ => False
theorem pdi_zip {wa wb : WE} {p tpos : Pos} {elts : List Expr} {kk : Nat} (hg : Gl X "zip") (hm : X.mg "zip" = none) (ha : PD X W a wa) (hb : PD X W b wb)
    (hs : starEach [a, b] X.env = (false, eval a X.env) :: starEach [b] X.env := by rfl) (hs2 : starEach [b] X.env = (false, eval b X.env) :: starEach [] X.env := by rfl) (hpl : (backTo pos (starEach [b] X.env)).any (·.1) = false := by rfl) :
    PDI X W (.Tuple elts kk tpos) (.Call (.Name "zip" p) [a, b] [] pos) (wiZip wa wb) := imI (pi_zip hg hm (pa_cons ha (pa_cons hb pa_nil hs2) hs) hs hpl) fun σ H R ⟨F, ρ, n, P, m, h, k⟩ => by
  refine ⟨F, ρ, n, _, m, h, fun r n1 v F1 H1 q x1 m1 rv => ?_⟩
  obtain ⟨F2, x2, m2, r2, _⟩ := Rv.freeze m m1 x1 rv
  refine ⟨F2, ρ, n1, _, m2, q, fun r' n3 v' F3 H3 q' x3 m3 rv' => ?_⟩
  obtain ⟨F4, x4, m4, r4, _⟩ := Rv.freeze m2 m3 x3 rv'
  have r5 := (Rv.step m2 m.sg x4 r2).now (RV.fr_not _)
  split at q'
  · rename_i ds es hr hr'
    rw [hr] at r5
    rw [hr'] at r4
    cases r5 with
    | @lst a xs es h1 h2 =>
      cases r4 with
      | @lst b ys es h3 h4 => exact ⟨a, b, xs, ys, rfl, .of (m4.fh _ _ h1), .of (m4.fh _ _ h3), k _ n3 F4 H3 _ q' (x2.trans x4) m4 (wk_zip h1 h2 h3 h4)⟩
  · exact q'.elim

/-! ### for -/
def forL (wg : WG) (w : WS) (DD : DE) : List D → Rho → Nat → Prop
  | [], ρ, n => DD.nx ρ n
  | d :: ds, ρ, n => wg d ρ fun ρ' => w { DD with nx := forL wg w DD ds, ct := forL wg w DD ds, bk := DD.nx } ρ' n
def wFor (wi : WI) (wg : WG) (w : WS) : WS := fun DD ρ n => wi ρ n fun items n' => Stop (forL wg w DD items ρ n') ⟨⟩
theorem drop_get {α : Type} {l : List α} {i : Nat} (h : i < l.length) : l.drop i = l[i] :: l.drop (i + 1) := List.drop_eq_getElem_cons h
theorem pds_for {js : List Nat} {iter : Expr} (hp : PassesOwn (model X.prog X.w) X.A X.env X.xe) (hc : X.calm = true) (hi : PDI X W tg iter wi) (hg : PDG X W tg js wg) (hb : PDSs X W body w)
    (hs : ∀ x, foldedSetIterable iter X.env x = pure x := by intro _; rfl) : PDS X W (.For tg iter body [] pos) (wFor wi wg w) := imS (ps_for hp hc hi hg hb hs) fun σ H DD ⟨F, ρ, n, ED, m, h, k1, k2, k3, k4⟩ => by
  refine ⟨F, ρ, n, _, m, h, fun items n1 F1 H1 J q x1 m1 wk => ?_⟩
  have sx := x1.ff
  refine ⟨fun i mm σ' H' => mm = items.length - i ∧ i ≤ items.length ∧ ∃ F' ρ' n', Same F1 F' ∧ Mo X.K W F' ρ' n' σ' H' ∧ forL wg w ED (items.drop i) ρ' n', ⟨items.length, by simp, Nat.zero_le _, F1, ρ, n1, Same.refl _, m1, q⟩, ?_⟩
  rintro i mm σ2 H2 ⟨rfl, hi, F2, ρ2, n2, s2, m2, q2⟩
  obtain ⟨go, stop⟩ := wk F2 ρ2 n2 σ2 H2 s2 m2
  by_cases hlt : i < items.length
  · obtain ⟨g1, g2⟩ := go i items[i] (List.getElem?_eq_getElem hlt)
    rw [drop_get hlt] at q2
    refine .inr ⟨g1, fun σ' H' => ∃ F' ρ' n', Same F1 F' ∧ Mo X.K W F' ρ' n' σ' H' ∧ forL wg w ED (items.drop (i + 1)) ρ' n', fun σ' H' z => ⟨items.length - (i + 1), by omega, rfl, hlt, z⟩, fun x H3 y => ?_⟩
    obtain ⟨F3, x3, m3, f3⟩ := g2 x H3 y
    have s3 := s2.trans x3.ff
    refine ⟨F3, ρ2, n2, items[i], _, m3, f3, q2, fun ρ4 σ4 q4 _ m4 => ?_⟩
    refine ⟨F3, ρ4, n2, _, m4, q4, ?_, ?_, ?_, ?_⟩
    · exact fun F' ρ' n' σ' H' h s mo' => ⟨F', ρ', n', s3.trans s, mo', h⟩
    · exact fun a b c d e f g => k1 a b c d e f ((sx.trans s3).trans g)
    · exact fun F' ρ' n' σ' H' h s mo' => ⟨F', ρ', n', s3.trans s, mo', h⟩
    · exact fun a b c d e f g h i => k4 a b c d e f g h ((sx.trans s3).trans i)
  · have e : i = items.length := by omega
    subst e
    rw [List.drop_length] at q2
    exact .inl ⟨stop _ (Nat.le_refl _), k1 F2 ρ2 n2 σ2 H2 q2 (sx.trans s2) m2⟩
end
end DL

namespace DL
open PySem PySem.Spec PyProof.Rows L2

/-! ### comprehensions -/
def wipeR (ρ : Rho) : List Nat → Rho
  | [] => ρ
  | v :: vs => (wipeR ρ vs).set v none
section
variable {K : PySem.W.Frag} {W : Wd} {F F' F1 H H' H1 : Hp} {ρ : Rho} {n : Nat} {σ : L2.St}
theorem wipeR_len (ρ : Rho) : ∀ vs, (wipeR ρ vs).length = ρ.length
  | [] => rfl
  | v :: vs => by unfold wipeR; rw [List.length_set, wipeR_len ρ vs]
theorem wipeR_some {i : Nat} {e : EV} : ∀ {vs : List Nat}, (wipeR ρ vs)[i]? = some (some e) → ρ[i]? = some (some e) ∧ i ∉ vs
  | [], h => ⟨h, by simp⟩
  | v :: vs, h => by
    unfold wipeR at h
    rcases set_get h with ⟨_, _, y⟩ | ⟨hj, y⟩
    · cases y
    · obtain ⟨a, b⟩ := wipeR_some y
      exact ⟨a, by simp only [List.mem_cons, not_or]; exact ⟨hj, b⟩⟩
theorem wipe_get {i : Nat} : ∀ {vs : List Nat}, i ∉ vs → (wipe σ vs)[i]? = σ[i]?
  | [], _ => rfl
  | v :: vs, h => by
    rw [List.mem_cons, not_or] at h
    unfold wipe
    rw [List.getElem?_set_ne (Ne.symm h.1)]
    exact wipe_get h.2
theorem Mo.wipe (m : Mo K W F ρ n σ H) (vs : List Nat) : Mo K W F (wipeR ρ vs) n (L2.wipe σ vs) H := by
  refine ⟨by rw [wipeR_len, wipe_length]; exact m.ln, m.f0, m.fh, m.bh, m.bs, m.fn, m.gn, fun i e h => ?_, fun i j di dj p h1 h2 h3 h4 => ?_⟩
  · obtain ⟨a, b⟩ := wipeR_some h
    obtain ⟨v, hv, s⟩ := m.sl i e a
    exact ⟨v, by rw [wipe_get b]; exact hv, s⟩
  · obtain ⟨a, b⟩ := wipeR_some h1
    obtain ⟨c, d⟩ := wipeR_some h2
    rw [wipe_get b] at h3
    rw [wipe_get d] at h4
    exact m.dj i j di dj p a c h3 h4
theorem wipe_same {σ' : L2.St} {vs js : List Nat} (o : off js (L2.wipe σ vs) σ') (hj : ∀ j ∈ js, j ∈ vs) : L2.wipe σ' vs = L2.wipe σ vs := by
  apply List.ext_getElem?
  intro i
  by_cases hi : i ∈ vs
  · have key : ∀ (τ : L2.St) (vs : List Nat), i ∈ vs → τ.length = σ.length → (L2.wipe τ vs)[i]? = if i < σ.length then some none else none := by
      intro τ vs
      induction vs with
      | nil => intro h; cases h
      | cons v vs ih =>
        intro h hl
        unfold L2.wipe
        by_cases c : v = i
        · subst c
          by_cases hv : v < σ.length
          · rw [if_pos hv, List.getElem?_set_self (by rw [wipe_length, hl]; exact hv)]
          · rw [if_neg hv, List.getElem?_eq_none (by rw [List.length_set, wipe_length, hl]; omega)]
        · rw [List.getElem?_set_ne c]
          rcases List.mem_cons.mp h with z | z
          · exact absurd z.symm c
          · exact ih z hl
    rw [key σ' vs hi (by rw [o.1, wipe_length]), key σ vs hi rfl]
  · rw [wipe_get hi, o.2 i fun z => hi (hj i z)]
theorem Ext.poke {p : Addr} {o : HO} (x : Ext W F1 H1 F H) (h : H1 p = none) : Ext W F1 H1 F (upd H p o) := by
  refine ⟨x.ff, fun a u e g => ?_, fun a e => ?_, x.nw⟩
  · rw [upd_ne (ne_of_none e h)]; exact x.hh a u e g
  · rw [upd_ne (fun z : a = p => by rw [z] at e; exact e h)]; exact x.hs a e
end

def compL (ρ : Rho) (wg : WG) (wt : WT) (we : WE) : List D → Nat → (List D → Nat → Prop) → Prop
  | [], n, Q => Q [] n
  | d :: rest, n, Q => wg d ρ fun ρ2 => wt ρ2 n fun b n1 =>
    if b = true then we ρ2 n1 fun r n2 => r.fr.isFz = true ∧ compL ρ wg wt we rest n2 fun ds n3 => Q (r.fr.un :: ds) n3 else compL ρ wg wt we rest n1 Q
def wComp (vs : List Nat) (wi : WI) (wg : WG) (wt : WT) (we : WE) : WE := fun ρ n Q => wi ρ n fun items n1 => items.length ≤ sizeLine ∧ Stop (compL (wipeR ρ vs) wg wt we items n1 fun ds n2 => Q (.tmp ds) n2) ⟨⟩
def wYes : WT := fun _ n Q => Q true n
section
variable {X : Cx} {W : Wd} {a b c e elt tg iter : Expr} {es ifs : List Expr} {we : WE} {wt : WT} {ws : WA} {wi : WI} {wg : WG} {pos : Pos} {body : List Stmt} {w : WS} {scope : Scope} {own : List (Str × Nat)} {js : List Nat}
abbrev PDTs (X : Cx) (W : Wd) (ifs : List Expr) (w : WT) : Prop := PTs X ifs (liftT X.K W w)
theorem pdts_nil : PDTs X W [] wYes := ⟨fun pins s σ H Q I ⟨F, ρ, n, P, m, h, k⟩ => pts_nil.run pins s σ H Q I (k _ n F H h .refl m)⟩
theorem pdts_one (h : PDT X W c wt) : PDTs X W [c] wt := pts_one h
theorem lc_sound {K : PySem.W.Frag} {vs : List Nat} (hj : ∀ j ∈ js, j ∈ vs) {σ : L2.St} {H : Hp} {Q : VK} (h : liftE K W (wComp vs wi wg wt we) σ H Q) : tLc (liftI K W wi) (liftG K W js wg) (liftT K W wt) (liftE K W we) vs σ H Q := by
  obtain ⟨F, ρ, n, P, m, h, k⟩ := h
  refine ⟨F, ρ, n, _, m, h, fun items n1 F1 H1 J ⟨hsz, q⟩ x1 m1 wk D hD => ?_⟩
  have gD := m1.nog hD
  refine ⟨fun i mm H2 => mm = items.length - i ∧ i ≤ items.length ∧ ∃ F2 n2 accd accv Q2, Ext W F1 H1 F2 H2 ∧ Mo K W F2 ρ n2 σ H2 ∧ H2 D = some (.lst accv) ∧ F2 D = none ∧ FzA K F2 accv accd ∧ accv.length ≤ i ∧
    compL (wipeR ρ vs) wg wt we (items.drop i) n2 Q2 ∧ ∀ ds n', Q2 ds n' → P (.tmp (accd ++ ds)) n', ⟨items.length, by simp, Nat.zero_le _, F1, n1, [], [], _, .own hD, m1.own hD, upd_same, m1.nof hD, .nil, Nat.le_refl _, q, fun ds n' z => z⟩, ?_⟩
  rintro i mm H2 ⟨rfl, hi, F2, n2, accd, accv, Q2, x2, m2, d2, f2, fz2, hl, q2, kq⟩
  obtain ⟨go, stop⟩ := wk F2 ρ n2 σ H2 x2.ff m2
  by_cases hlt : i < items.length
  · obtain ⟨g1, g2⟩ := go i items[i] (List.getElem?_eq_getElem hlt)
    rw [drop_get hlt] at q2
    refine .inr ⟨g1, fun H3 => ∃ F3 n3 accd accv Q3, Ext W F1 H1 F3 H3 ∧ Mo K W F3 ρ n3 σ H3 ∧ H3 D = some (.lst accv) ∧ F3 D = none ∧ FzA K F3 accv accd ∧ accv.length ≤ i + 1 ∧
      compL (wipeR ρ vs) wg wt we (items.drop (i + 1)) n3 Q3 ∧ ∀ ds n', Q3 ds n' → P (.tmp (accd ++ ds)) n', fun H' z => ⟨items.length - (i + 1), by omega, rfl, hlt, z⟩, fun x H3 y => ?_⟩
    obtain ⟨F3, x3, m3, f3⟩ := g2 x H3 y
    refine ⟨F3, _, n2, items[i], _, m3.wipe vs, f3, q2, fun ρ4 σ4 q4 o4 m4 => ⟨wipe_same o4 hj, ?_⟩⟩
    refine ⟨F3, ρ4, n2, _, m4, q4, fun b n5 F5 H5 q5 x5 m5 => ?_⟩
    have d5 := x5.hh D _ (x3.hh D _ d2 gD) gD
    have fd5 : F5 D = none := x5.nw D (some_ne (x3.hh D _ d2 gD)) (x3.nw D (some_ne d2) f2)
    cases b with
    | true =>
      refine iteT ?_
      (try dsimp only at q5)
      rw [if_pos rfl] at q5
      refine ⟨F5, ρ4, n5, _, m5, q5, fun r n6 v F6 H6 ⟨hr, q6⟩ x6 m6 rv => ?_⟩
      obtain ⟨F7, x7, m7, r7, _⟩ := Rv.freeze m5 m6 x6 rv
      have f7 : Fz K F7 v r.fr.un := by
        cases e : r.fr with
        | fz d => rw [e] at r7; exact r7
        | _ => rw [e] at hr; cases hr
      have d7 := x7.hh D _ d5 gD
      have fd7 : F7 D = none := x7.nw D (some_ne d5) fd5
      have xx := ((x2.trans x3).trans x5).trans x7
      refine ⟨accv, d7, by omega, F7, n6, accd ++ [r.fr.un], accv ++ [v], _, xx.poke hD, ?_, upd_same, fd7, (fz2.mono ((x3.ff.trans x5.ff).trans x7.ff)).append (.one f7), by rw [List.length_append]; simp; omega, q6, fun ds n' z => ?_⟩
      · refine m1.ext (xx.poke hD) (fun a u e => ?_) (fun p hp => ?_)
        · rw [upd_ne (ne_of_none e fd7)]; exact m7.fh a u e
        · obtain ⟨a, gs, e, g⟩ := m7.gn p hp
          exact ⟨a, gs, by rw [upd_ne (fun z : p = D => gD (by rw [← z]; exact hp))]; exact e, g⟩
      · have := kq _ n' z
        rw [List.append_assoc]
        exact this
    | false =>
      refine iteF ?_
      (try dsimp only at q5)
      rw [if_neg Bool.false_ne_true] at q5
      have xx := (x2.trans x3).trans x5
      exact ⟨F5, n5, accd, accv, Q2, xx, m1.ext xx m5.fh m5.gn, d5, fd5, fz2.mono (x3.ff.trans x5.ff), by omega, q5, kq⟩
  · have e : i = items.length := by omega
    subst e
    rw [List.drop_length] at q2
    refine .inl ⟨stop _ (Nat.le_refl _), ?_⟩
    have p := kq [] n2 q2
    rw [List.append_nil] at p
    exact k _ n2 _ F2 H2 p (x1.trans x2) m2 (Rv.back (r := .tmp accd) x1.hs ⟨D, accv, rfl, hD, d2, f2, fz2⟩)
theorem pd_lc (hc : X.calm = true) (hN : X.N.Nodup) (hi : PDI X W tg iter wi) (ok : BlkOk X.N X.env.scope scope own) (hj : ∀ j ∈ js, j ∈ own.map (·.2))
    (hg : ∀ (s : Shared) (H : Hp) (C : Addr) (cl : List (Str × Addr)) (fp : List Addr), PDG (X.blk s H scope (compEnvC scope cl C X.env) fp) W tg js wg) (ht : ∀ (s : Shared) (H : Hp) (C : Addr) (cl : List (Str × Addr)) (fp : List Addr), PDTs (X.blk s H scope (compEnvC scope cl C X.env) fp) W ifs wt)
    (he : ∀ (s : Shared) (H : Hp) (C : Addr) (cl : List (Str × Addr)) (fp : List Addr), PD (X.blk s H scope (compEnvC scope cl C X.env) fp) W elt we) (hs : ∀ x, foldedSetIterable iter X.env x = pure x := by intro _; rfl) :
    PD X W (.ListComp elt [⟨tg, iter, ifs, 0⟩] scope pos) (wComp (own.map (·.2)) wi wg wt we) := imE (pe_lc hc hN hi ok hg ht he hs) fun σ H Q h => lc_sound hj h
theorem pds_setLc {i : Nat} {y : Str} {py spos : Pos} (hc : X.calm = true) (hN : X.N.Nodup) (hy : X.N[i]? = some y) (hyl : X.env.scope.names.lookup y = some .local) (hsw : swapsWith (.ListComp elt [⟨tg, iter, ifs, 0⟩] scope pos) (some (.Name y py)) spos.line X.env = pure true)
    (hi : PDI X W tg iter wi) (ok : BlkOk X.N X.env.scope scope own) (hj : ∀ j ∈ js, j ∈ own.map (·.2))
    (hg : ∀ (s : Shared) (H : Hp) (C : Addr) (cl : List (Str × Addr)) (fp : List Addr), PDG (X.blk s H scope (compEnvC scope cl C X.env) fp) W tg js wg) (ht : ∀ (s : Shared) (H : Hp) (C : Addr) (cl : List (Str × Addr)) (fp : List Addr), PDTs (X.blk s H scope (compEnvC scope cl C X.env) fp) W ifs wt)
    (he : ∀ (s : Shared) (H : Hp) (C : Addr) (cl : List (Str × Addr)) (fp : List Addr), PD (X.blk s H scope (compEnvC scope cl C X.env) fp) W elt we) (hs : ∀ x, foldedSetIterable iter X.env x = pure x := by intro _; rfl) :
    PDS X W (.Assign [.Name y py] (.ListComp elt [⟨tg, iter, ifs, 0⟩] scope pos) spos) (wSet i (wComp (own.map (·.2)) wi wg wt we)) := imS (ps_setLc hc hN hy hyl hsw hi ok hg ht he hs) fun σ H D ⟨F, ρ, n, DD, m, h, k, _⟩ => by
  refine lc_sound (K := X.K) (W := W) hj ⟨F, ρ, n, _, m, h, fun r n' v F' H' q x m' rv => ?_⟩
  split at q
  · rename_i ev hev
    exact k F' _ n' _ H' q x.ff (Mo.store m m' rv hev)
  · exact q.elim
end

end DL

namespace DL
open PySem PySem.Spec PyProof.Rows L2

/-! ### a def's promise where no repr is under way -/
structure FnG (P : Program) (w : World) (K : PySem.W.Frag) (mg : Str → Option Value) (base : Heap) (CX : CXT) (k : Nat) (f : Addr) (fd : FuncData) (ps : List Str) (sp : Sp) : Prop where
  len : ∀ vs H Q E, sp vs H Q E → vs.length = ps.length
  run : ∀ (A : Around) (outer : List Env) (s : Shared) (H : Hp) (args : Args) (us : List Value) (vs : List V) (Q : VK) (E : XK), A.guards = some [] → Room k A → Env0 P w K mg base A outer s H →
    BindsTo s fd args (ps.zip us) → Vals vs us → sp vs H Q E → codeAny (model P w) A (.call (.ref f) args) (CR CX outer P w H s Q E) s
theorem FnG.mono {P : Program} {w : World} {K : PySem.W.Frag} {mg : Str → Option Value} {base : Heap} {CX : CXT} {j k : Nat} {f : Addr} {fd : FuncData} {ps : List Str} {sp : Sp} (Fk : FnG P w K mg base CX j f fd ps sp) (h : j ≤ k) : FnG P w K mg base CX k f fd ps sp :=
  ⟨Fk.len, fun A outer s H args us vs Q E hg hr => Fk.run A outer s H args us vs Q E hg (hr.mono h)⟩
theorem FnG.imp {P : Program} {w : World} {K : PySem.W.Frag} {mg : Str → Option Value} {base : Heap} {CX : CXT} {k : Nat} {f : Addr} {fd : FuncData} {ps : List Str} {sp sp' : Sp} (Fk : FnG P w K mg base CX k f fd ps sp) (h : ∀ vs H Q E, sp' vs H Q E → sp vs H Q E) : FnG P w K mg base CX k f fd ps sp' :=
  ⟨fun vs H Q E q => Fk.len vs H Q E (h _ _ _ _ q), fun A outer s H args us vs Q E hg hr he hb hv hs => Fk.run A outer s H args us vs Q E hg hr he hb hv (h _ _ _ _ hs)⟩
section
variable {P : Program} {w : World} {K : PySem.W.Frag} {mg : Str → Option Value} {base : Heap} {CX : CXT}
/-- the rule for a def by its body, the guards carried -/
theorem fng_of {k : Nat} {f : Addr} {name qual : Str} {params : Arguments} {body : List Stmt} {scope : Scope} {kV doc pm cdv ct oc : Value} {an od : Option Addr} {osl : Array (Option Value)} {N ps : List Str} {sp : Sp}
    (lk : K.lookup f = some ⟨oc, od, .func (PySem.W.fnOf name qual params body scope .none kV doc pm an cdv ct), osl⟩) (hcd : PySem.W.codeIn K cdv qual = true) (S : FnScope N ps scope) (len : ∀ vs H Q E, sp vs H Q E → vs.length = ps.length)
    (hbody : ∀ (A : Around) (outer : List Env) (s : Shared) (H : Hp) (vs : List V) (Q : VK) (E : XK), A.guards = some [] → Room k (A.deeper (envOfC qual scope s.heap.objs.size f cdv)) → sp vs H Q E →
      ∃ t, PSs (cxOf CX P w K mg base N qual scope f cdv A outer s H E) body t ∧ t { nx := fun _ H' => Q .non H', rt := Q } (L2.start N vs) H) :
    FnG P w K mg base CX (k + 1) f (PySem.W.fnOf name qual params body scope .none kV doc pm an cdv ct) ps sp where
  len := len
  run := by
    intro A outer s H args us vs Q E hgd hroom env0 hbinds hvals hspec
    have hlen := len _ _ _ _ hspec
    have inK : K.In s.heap := env0.mod.kin.keeps fun b o e => (env0.bs b o e).1
    have noLim : s.heap.NoLimit := env0.mod.nolimit.keeps fun b o e => (env0.bs b o e).1
    have kinds : ∀ y ∈ ps.zip us, scope.names.lookup y.1 = some .local ∨ (scope.names.lookup y.1 = some .cell ∧ ((cellsFrom (s.heap.objs.size + 1) scope.names []).lookup y.1).isSome = true) := by
      intro y hy
      obtain ⟨n, v⟩ := y
      cases S.par n (List.of_mem_zip hy).1 with
      | inl q => exact .inl q
      | inr q => exact .inr ⟨q, PySem.W.cellsFrom_some _ _ _ (.inl q)⟩
    apply codeAny_call_function hroom.depth (inK _ _ lk) rfl S.co S.gen rfl (PySem.W.codeRec_of inK hcd)
    apply hbinds
    apply wpAny_newFunctionEnv_cells S.kind kinds
    intro env henv s1 entered
    subst henv
    obtain ⟨t, ht, hq⟩ := hbody A outer s H vs Q E hgd (hroom.deeper _) hspec
    have inv := inv_start (CX := CX) (E := E) S hroom.hd env0 hlen hvals entered
    refine ⟨noLim.keeps entered.toInCall.keep, codeAny_func (wpAny_mono (ht.run [] s1 (L2.start N vs) H _ inv hq) ?_ fun _ _ z => z)⟩
    intro fl s' got
    cases fl with
    | ret u =>
      obtain ⟨v, _, H', J, rv, q⟩ := got
      exact ⟨v, H', J.os, J.bare, J.base, J.hok, rv, q⟩
    | next =>
      obtain ⟨_, H', J, q⟩ := got
      exact ⟨V.non, H', J.os, J.bare, J.base, J.hok, rfl, q⟩
    | brk => exact got.choose_spec.choose_spec.2.elim
    | cont => exact got.choose_spec.choose_spec.2.elim
end
section
variable {X : Cx} {CX : CXT} {k : Nat} {f : Addr} {fd : FuncData} {ps : List Str} {sp : Sp} {E : XK}
/-- the callee runs -/
theorem run_g {pins : List (Addr × Obj)} {σ : L2.St} {H : Hp} {s : Shared} {Q : VK} {us : List Value} {vs : List V} {args : Args} (Fk : FnG X.prog X.w X.K X.mg X.base CX k f fd ps sp) (hgd : X.A.guards = some []) (hr : Room k X.A) (hx : Passes CX X E)
    (I : Inv X pins σ H s) (hb : BindsTo s fd args (ps.zip us)) (r : Vals vs us) (h : sp vs H Q E) : wpAny (model X.prog X.w) X.A (call (.ref f) args.pos args.kw) (EP X pins σ Q) X.xe s := by
  apply wpAny_call
  refine codeAny_mono (Fk.run X.A X.stack s H args us vs Q E hgd hr I.env0 hb r h) ?_
  rintro (e | fl) s' got
  · exact hx pins σ H s e s' I got
  · cases fl with
    | ret u => exact I.after got
    | next => exact got.elim
    | brk => exact got.elim
    | cont => exact got.elim
end

/-! ### defs and calls -/
abbrev Ct := List RV → Nat → (RV → Nat → Prop) → Prop
def RV.arg : RV → Bool
  | .fz _ => true
  | .gen => true
  | .scr _ => true
  | _ => false
def liftSp (K : PySem.W.Frag) (G : List V → Nat → Prop) (c : Ct) : Sp := fun vs H Q _ => ∃ g F n rs P, Mo K ⟨G, g, H, F⟩ F [] n [] H ∧ RA K ⟨G, g, H, F⟩ F H vs rs ∧ rs.all RV.arg = true ∧ c rs n P ∧
  ∀ r n' v F' H', P r n' → Mo K ⟨G, g, H, F⟩ F' [] n' [] H' → Rv K ⟨G, g, H, F⟩ H F' H' v r → Q v H'
section
variable {K : PySem.W.Frag} {W W' : Wd} {F F' F1 H H' H1 : Hp} {ρ : Rho} {n : Nat} {σ : L2.St}
theorem RA.world {vs : List V} {rs : List RV} (g : W.g = W'.g) (h : RA K W F H vs rs) (e : rs.all RV.arg = true) : RA K W' F H vs rs := by
  induction h with
  | nil => exact .nil
  | @cons v r vs rs a t _ ih =>
    rw [List.all_cons, Bool.and_eq_true] at e
    refine .cons ?_ t (ih e.2)
    cases r with
    | fz d => exact a
    | gen => obtain ⟨p, e1, e2⟩ := a; exact ⟨p, e1, by rw [← g]; exact e2⟩
    | scr ns => exact a
    | _ => exact absurd e.1 Bool.false_ne_true
/-- a call's promise from where the caller stands -/
theorem call_sp {c : Ct} {vs : List V} {rs : List RV} {P : RV → Nat → Prop} {Q : VK} {E : XK} (m : Mo K W F ρ n σ H) (ra : RA K W F H vs rs) (ha : rs.all RV.arg = true) (hc : c rs n P)
    (k : ∀ r n' v F' H', P r n' → Ext W F H F' H' → Mo K W F' ρ n' σ H' → Rv K W H F' H' v r → Q v H') : liftSp K W.G c vs H Q E := by
  refine ⟨W.g, F, n, rs, P, ⟨Nat.le_refl _, Same.refl F, m.fh, fun a o e _ => e, fun a e => e, fun a _ e => e, m.gn, fun i e h => by simp at h, fun i j di dj p h => by simp at h⟩, RA.world (W := W) (W' := ⟨W.G, W.g, H, F⟩) rfl ra ha, ha, hc, fun r n' v F' H' p m' rv => ?_⟩
  · have x : Ext W F H F' H' := ⟨m'.f0, m'.bh, m'.bs, m'.fn⟩
    refine k r n' v F' H' p x (m.ext x m'.fh m'.gn) ?_
    cases r with
    | fz d => exact rv
    | tmp ds => exact rv
    | bor ds =>
      obtain ⟨p, ws, e, hp, fp, bp, gp, fz⟩ := rv
      exact ⟨p, ws, e, hp, fp, m.nob bp, gp, fz⟩
    | gen => exact rv
    | scr ns => exact rv
end
def wCall (c : Ct) (ws : WA) : WE := fun ρ n Q => ws ρ n fun rs n1 => rs.all RV.arg = true ∧ Stop (c rs n1 Q) ⟨⟩
section
variable {X : Cx} {W : Wd} {e : Expr} {es : List Expr} {we : WE} {ws wk : WA} {pos p : Pos} {c : Ct} {k : Nat} {f : Addr} {fd : FuncData} {ps ks : List Str} {x : Str} {E : XK} {CX : CXT} {kws : List Keyword}
theorem pd_call (Fk : FnG X.prog X.w X.K X.mg X.base CX k f fd ps (liftSp X.K W.G c)) (hgd : X.A.guards = some []) (hr : Room k X.A) (hg : Gl X x) (hm : X.mg x = some (.ref f)) (hk : PySem.W.keepIn X.K (.ref f) = true) (hb : Binds X.K fd ps []) (hx : Passes CX X E)
    (ha : PDA X W (e :: es) ws) (hdb : (x == ("__debug__" : Str)) = false := by decide) (he : starEach (e :: es) X.env = (false, eval e X.env) :: starEach es X.env := by rfl) (hpl : (backTo pos (starEach es X.env)).any (·.1) = false := by rfl) :
    PD X W (.Call (.Name x p) (e :: es) [] pos) (wCall c ws) where
  run := by
    intro pins s σ H Q I ⟨F, ρ, n, P, m, h, kk⟩
    have h' : liftA X.K W ws σ H fun vs H1 => ∃ F1 n1 rs, rs.all RV.arg = true ∧ c rs n1 P ∧ Ext W F H F1 H1 ∧ Mo X.K W F1 ρ n1 σ H1 ∧ RA X.K W F1 H1 vs rs :=
      ⟨F, ρ, n, _, m, h, fun rs n1 vs F1 H1 ⟨q2, q3⟩ x1 m1 r1 => ⟨F1, n1, rs, q2, q3, x1, m1, r1⟩⟩
    apply wpAny_Call_Name_kw
    refine ld_glob I hg hm ?_ hdb
    refine PySem.W.callWith_K (h₀ := X.base) I.ok.mod.kin hk (thn (ha.run pos pins s σ H _ I h') ?_) he hpl
    rintro us s1 ⟨vs, H1, I1, r, F1, n1, rs, q2, q3, x1, m1, r1⟩
    have spec : liftSp X.K W.G c vs H1 Q E := call_sp m1 r1 q2 q3 fun r n' v F' H' p x' m' rv => kk r n' v F' H' p (x1.trans x') m' (rv.back x1.hs)
    have hl : us.length = ps.length := by rw [← r.length]; exact Fk.len _ _ _ _ spec
    have bnd := hb s1 us I1.kIn (by rw [List.append_nil]; exact hl)
    rw [List.append_nil] at bnd
    exact ⟨I1.kIn, run_g (args := ⟨us, []⟩) Fk hgd hr hx I1 bnd r spec⟩
theorem pd_call0 (Fk : FnG X.prog X.w X.K X.mg X.base CX k f fd ps (liftSp X.K W.G c)) (hgd : X.A.guards = some []) (hr : Room k X.A) (hg : Gl X x) (hm : X.mg x = some (.ref f)) (hk : PySem.W.keepIn X.K (.ref f) = true) (hb : Binds X.K fd ps []) (hx : Passes CX X E)
    (hdb : (x == ("__debug__" : Str)) = false := by decide) : PD X W (.Call (.Name x p) [] [] pos) (wCall c wNil) where
  run := by
    intro pins s σ H Q I ⟨F, ρ, n, P, m, h, kk⟩
    apply wpAny_Call_Name_kw
    refine ld_glob I hg hm (PySem.W.callWith_K0 I.kIn hk ?_) hdb
    have spec : liftSp X.K W.G c [] H Q E := call_sp (E := E) m .nil rfl h.2 fun r n' v F' H' p x' m' rv => kk r n' v F' H' p x' m' rv
    have hl : ([] : List Value).length = ps.length := Fk.len _ _ _ _ spec
    have bnd := hb s [] I.kIn (by simpa using hl)
    exact run_g (args := ⟨[], []⟩) (us := []) Fk hgd hr hx I (by simpa using bnd) .nil spec
/-! keywords alone -/
theorem pk_of {kws : List Keyword} {t t' : TA} (h : PK X kws t) (i : ∀ σ H Q, t' σ H Q → t σ H Q) : PK X kws t' := ⟨fun pos pins s σ H Q I q => h.run pos pins s σ H Q I (i σ H Q q)⟩
abbrev PDK (X : Cx) (W : Wd) (kws : List Keyword) (w : WA) : Prop := PK X kws (liftA X.K W w)
theorem pdk_nil : PDK X W [] wNil := pk_of pk_nil fun σ H Q ⟨F, ρ, n, P, m, w, k⟩ => k [] n [] F H w .refl m .nil
theorem pdk_cons {nm : Option Str} {kpos : Pos} (ha : PD X W e we) (hr : PDK X W kws ws) : PDK X W (⟨nm, e, kpos⟩ :: kws) (wCons we ws) := pk_of (pk_cons ha hr) fun σ H Q ⟨F, ρ, n, P, m, w, k⟩ => by
  refine ⟨F, ρ, n, _, m, w, fun x n1 v F1 H1 c x1 m1 r1 => ?_⟩
  obtain ⟨F2, x2, m2, r2, ff⟩ := Rv.freeze m m1 x1 r1
  refine ⟨F2, ρ, n1, _, m2, c, fun xs n2 vs F3 H3 c3 x3 m3 r3 => ?_⟩
  exact k _ n2 (v :: vs) F3 H3 c3 (x2.trans x3) m3 (.cons ((Rv.step m2 m.sg x3 r2).now (RV.fr_not _)) (RV.fr_not _) r3)
/-- how keywords' values come to the parameters: pm tells for each parameter the keyword's place -/
def pick {α : Type} (pm : List Nat) (d : α) (xs : List α) : List α := pm.map fun i => xs.getD i d
structure KB (K : PySem.W.Frag) (fd : FuncData) (ps ks : List Str) (pm : List Nat) : Prop where
  to : ∀ (s : Shared) (ws : List Value), ws.length = ks.length → BindsTo s fd ⟨[], ks.zip ws⟩ (ps.zip (pick pm .none ws))
  pl : pm.length = ps.length
  kl : ∀ i ∈ pm, i < ks.length
theorem pick_vals {pm : List Nat} {zs : List V} {ws : List Value} (r : Vals zs ws) : Vals (pick pm .non zs) (pick pm .none ws) := by
  induction pm with
  | nil => exact .nil
  | cons i pm ih =>
    refine .cons ?_ ih
    by_cases h : i < zs.length
    · obtain ⟨u, hu, rv⟩ := r.get (i := i) (x := zs[i]) (List.getElem?_eq_getElem h)
      show RelV (zs.getD i V.non) (ws.getD i Value.none)
      rw [List.getD_eq_getElem?_getD, List.getD_eq_getElem?_getD, hu, List.getElem?_eq_getElem h]
      exact rv
    · have e1 : zs[i]? = none := List.getElem?_eq_none (by omega)
      have e2 := r.none_of e1
      show RelV (zs.getD i V.non) (ws.getD i Value.none)
      rw [List.getD_eq_getElem?_getD, List.getD_eq_getElem?_getD, e1, e2]
      rfl
theorem RA.get {K : PySem.W.Frag} {F H : Hp} {vs : List V} {rs : List RV} (h : RA K W F H vs rs) : ∀ {i : Nat} {r : RV}, rs[i]? = some r → ∃ v, vs[i]? = some v ∧ Rv K W H F H v r ∧ r.isTmp = false := by
  induction h with
  | nil => intro i r e; simp at e
  | cons a t _ ih =>
    intro i r e
    cases i with
    | zero => simp at e; subst e; exact ⟨_, rfl, a, t⟩
    | succ i =>
      obtain ⟨v, h1, h2⟩ := ih (i := i) (r := r) (by simpa using e)
      exact ⟨v, by simpa using h1, h2⟩
theorem pick_ra {K : PySem.W.Frag} {F H : Hp} {vs : List V} {rs : List RV} (h : RA K W F H vs rs) : ∀ (pm : List Nat), (∀ i ∈ pm, i < rs.length) → RA K W F H (pick pm .non vs) (pick pm .gen rs)
  | [], _ => .nil
  | i :: pm, hp => by
    have hi := hp i (List.mem_cons_self ..)
    obtain ⟨v, h1, h2, h3⟩ := h.get (List.getElem?_eq_getElem hi)
    have ih := pick_ra h pm fun j hj => hp j (List.mem_cons_of_mem _ hj)
    unfold pick at ih ⊢
    rw [List.map_cons, List.map_cons, List.getD_eq_getElem?_getD, List.getD_eq_getElem?_getD, h1, List.getElem?_eq_getElem hi]
    exact .cons h2 h3 ih
def wCallK (c : Ct) (pm : List Nat) (nk : Nat) (wk : WA) : WE := fun ρ n Q => wk ρ n fun rs n1 => rs.length = nk ∧ (pick pm RV.gen rs).all RV.arg = true ∧ Stop (c (pick pm .gen rs) n1 Q) ⟨⟩
theorem pd_callK {pm : List Nat} (Fk : FnG X.prog X.w X.K X.mg X.base CX k f fd ps (liftSp X.K W.G c)) (hgd : X.A.guards = some []) (hr : Room k X.A) (hg : Gl X x) (hm : X.mg x = some (.ref f)) (hk : PySem.W.keepIn X.K (.ref f) = true) (hb : KB X.K fd ps ks pm) (hx : Passes CX X E)
    (hkw : PDK X W kws wk) (hall : (backToKw pos (keywordEach kws X.env)).all (·.1.isSome) = true := by rfl) (hks : (backToKw pos (keywordEach kws X.env)).filterMap (·.1) = ks := by rfl)
    (hdb : (x == ("__debug__" : Str)) = false := by decide) (hpl : ((backTo pos (starEach [] X.env)).any (·.1) || (backToKw pos (keywordEach kws X.env)).any (·.1.isNone)) = false := by rfl) :
    PD X W (.Call (.Name x p) [] kws pos) (wCallK c pm ks.length wk) := by
  refine ⟨fun pins s σ H Q I ⟨F, ρ, n, P, m, h, kk⟩ => ?_⟩
  refine wpAny_Call_Name_kw (ld_glob I hg hm ?_ hdb)
  have h' : liftA X.K W wk σ H fun vs H1 => ∃ F1 n1 rs, rs.length = ks.length ∧ (pick pm RV.gen rs).all RV.arg = true ∧ c (pick pm .gen rs) n1 P ∧ Ext W F H F1 H1 ∧ Mo X.K W F1 ρ n1 σ H1 ∧ RA X.K W F1 H1 vs rs :=
    ⟨F, ρ, n, _, m, h, fun rs n1 vs F1 H1 ⟨q1, q2, q3⟩ x1 m1 r1 => ⟨F1, n1, rs, q1, q2, q3, x1, m1, r1⟩⟩
  refine PySem.W.callWith_KW0 (h₀ := X.base) I.ok.mod.kin hk hall (thn (hkw.run pos pins s σ H _ I h') fun ws s2 ⟨zs, H2, I2, rz, F1, n1, rs, q1, q2, q3, x1, m1, r1⟩ => ⟨I2.kIn, ?_⟩) hpl
  rw [hks]
  have sp : liftSp X.K W.G c (pick pm .non zs) H2 Q E := call_sp m1 (pick_ra r1 pm fun i hi => by rw [q1]; exact hb.kl i hi) q2 q3 fun r n' v F' H' p x' m' rv => kk r n' v F' H' p (x1.trans x') m' (rv.back x1.hs)
  have hwl : ws.length = ks.length := by rw [← rz.length, r1.length, q1]
  exact run_g (args := ⟨[], ks.zip ws⟩) Fk hgd hr hx I2 (hb.to s2 ws hwl) (pick_vals rz) sp
end

/-! ### a def's body -/
def RV.slot : RV → Option EV
  | .fz d => some (.fz d)
  | .gen => some .gen
  | .scr ns => some (.scr ns)
  | _ => none
def rho0 (N : List Str) (rs : List RV) : Rho := rs.map RV.slot ++ List.replicate (N.length - rs.length) none
theorem mo_start {K : PySem.W.Frag} {W : Wd} {F H : Hp} {N : List Str} {vs : List V} {rs : List RV} {n : Nat} (m : Mo K W F [] n [] H) (ra : RA K W F H vs rs) (ha : rs.all RV.arg = true) : Mo K W F (rho0 N rs) n (L2.start N vs) H := by
  have hl := ra.length
  have get : ∀ (i : Nat) (e : EV), (rho0 N rs)[i]? = some (some e) → ∃ r, rs[i]? = some r ∧ r.slot = some e := fun i e h => by
    unfold rho0 at h
    by_cases hi : i < rs.length
    · rw [List.getElem?_append_left (by simpa using hi), List.getElem?_map, List.getElem?_eq_getElem hi] at h
      exact ⟨rs[i], List.getElem?_eq_getElem hi, Option.some.inj h⟩
    · rw [List.getElem?_append_right (by simpa using hi), List.getElem?_replicate] at h
      split at h <;> cases h
  refine ⟨?_, m.f0, m.fh, m.bh, m.bs, m.fn, m.gn, fun i e h => ?_, fun i j di dj p h _ _ _ => ?_⟩
  · unfold rho0 L2.start
    rw [List.length_append, List.length_append, List.length_map, List.length_map, List.length_replicate, List.length_replicate, hl]
    exact Nat.le_refl _
  · obtain ⟨r, hr, hs⟩ := get i e h
    obtain ⟨v, hv, rv, _⟩ := ra.get hr
    refine ⟨v, ?_, ?_⟩
    · unfold L2.start
      have hi : i < vs.length := (List.getElem?_eq_some_iff.mp hv).1
      rw [List.getElem?_append_left (by simpa using hi), List.getElem?_map, hv]
      rfl
    · cases r with
      | fz d => cases hs; exact rv
      | gen => cases hs; exact rv
      | scr ns => cases hs; exact rv
      | _ => cases hs
  · obtain ⟨r, hr, hs⟩ := get i _ h
    cases r <;> cases hs
section
variable {P : Program} {w : World} {K : PySem.W.Frag} {mg : Str → Option Value} {base : Heap}
theorem fn_ok {x qual : Str} {st : Stmt} {f : Addr} {fd : FuncData} {N ps : List Str} {k : Nat} {G : List V → Nat → Prop} {c : Ct} {wb : WS} (Fn : Fun K x qual st f fd) (S : FnScope N ps (defScope st)) (hl : ∀ rs n Q, c rs n Q → rs.length = ps.length)
    (body : ∀ (cdv : Value) (A : Around) (outer : List Env) (s : Shared) (H : Hp) (E : XK) (g : Option Addr) (B F0 : Hp), A.guards = some [] → Room k (A.deeper (envOfC qual (defScope st) s.heap.objs.size f cdv)) →
      PDSs (cxOf CX0 P w K mg base N qual (defScope st) f cdv A outer s H E).nox ⟨G, g, B, F0⟩ (defBody st) wb)
    (sat : ∀ rs n Q, c rs n Q → rs.all RV.arg = true → wb { nx := fun _ n' => Q (.fz .none) n', rt := Q } (rho0 N rs) n) : FnG P w K mg base CX0 (k + 1) f fd ps (liftSp K G c) := by
  obtain ⟨oc, od, kV, doc, pm, an, cdv, ct, osl, rfl, lk, hcd⟩ := Fn.ex
  refine fng_of lk hcd S (fun vs H Q E ⟨g, F, n, rs, P, m, ra, ha, h, _⟩ => by rw [ra.length]; exact hl _ _ _ h) fun A outer s H vs Q E hgd hr ⟨g, F, n, rs, P', m, ra, ha, h, kk⟩ => ?_
  refine ⟨_, (body cdv A outer s H E g H F hgd hr).nox, ?_⟩
  refine ⟨F, _, n, _, mo_start m ra ha, sat rs n P' h ha, fun F' ρ' n' σ' H' q _ m' => ?_, fun _ _ _ _ _ q => q.elim, fun _ _ _ _ _ q => q.elim, fun r n' v F' ρ' σ' H' q _ m' rv => ?_⟩
  · exact kk _ n' _ F' H' q ⟨Nat.le_refl _, m'.f0, m'.fh, m'.bh, m'.bs, m'.fn, m'.gn, fun i e h => by simp at h, fun i j di dj p h => by simp at h⟩ (show Fz K F' V.non .none from .non)
  · exact kk r n' v F' H' q ⟨Nat.le_refl _, m'.f0, m'.fh, m'.bh, m'.bs, m'.fn, m'.gn, fun i e h => by simp at h, fun i j di dj p h => by simp at h⟩ rv
end
end DL

namespace DL
open PySem PySem.Spec PyProof.Rows L2

/-! ### what data are -/
inductive Ty where
  | int | bool | str | list | tuple | dict
def Ty.nm : Ty → String
  | .int => "int"
  | .bool => "bool"
  | .str => "str"
  | .list => "list"
  | .tuple => "tuple"
  | .dict => "dict"
def tyName : D → String
  | .none => "NoneType"
  | .bool _ => "bool"
  | .int _ => "int"
  | .str _ => "str"
  | .list _ => "list"
  | .tuple _ => "tuple"
  | .dict _ => "dict"
def isOf : Ty → D → Bool
  | .int, .int _ => true
  | .int, .bool _ => true
  | .bool, .bool _ => true
  | .str, .str _ => true
  | .list, .list _ => true
  | .tuple, .tuple _ => true
  | .dict, .dict _ => true
  | _, _ => false
theorem kitB_is (T : Ty) (d : D) : kitB (tyName d) T.nm = some (isOf T d) := by
  have k : ∀ a : String, ∀ r : Bool, kitB a T.nm = some r → kitB a T.nm = some r := fun _ _ h => h
  cases T <;> cases d <;> (simp only [tyName, Ty.nm, isOf]; decide +kernel)
section
variable {K : PySem.W.Frag} {W : Wd} {F H : Hp}
theorem rd_dict {a : Addr} {kvs : List (Key × V)} (h : Rd H a (.dK kvs)) : TyX K H (.ref a) (.type "dict") := by
  cases h with
  | inl h => exact .base (.dK h)
  | inr h =>
    obtain ⟨o, h⟩ := h
    exact .fDict h
theorem fz_ty {v : V} {d : D} (h : Fz K H v d) : TyX K H v (.type (tyName d)) := by
  cases h with
  | non => exact .base .non
  | bl b => exact .base (.bl b)
  | int i => exact .base (.int i)
  | str x => exact .base (.str x)
  | lst h _ => exact .base (.lst h)
  | tup h _ =>
    rcases h with (h | ⟨o, h⟩) | ⟨o, its, n, h, hc, _⟩
    · exact .base (.tup h)
    · exact .fTuple h
    · exact .kTuple h hc
  | dct h _ => exact rd_dict (.inr ⟨_, h⟩)
mutual
def flatD : D → Bool
  | .dict _ => false
  | .list ds => flatDs ds
  | .tuple ds => flatDs ds
  | _ => true
def flatDs : List D → Bool
  | [] => true
  | d :: ds => flatD d && flatDs ds
end
mutual
theorem canLay_flat : ∀ d : D, d.canLay0 = true → flatD d = true
  | .none, _ => rfl
  | .bool _, _ => rfl
  | .int _, _ => rfl
  | .str _, _ => rfl
  | .list ds, h => canLays_flat ds (by simpa [PyData.canLay0] using h)
  | .tuple ds, h => canLays_flat ds (by simpa [PyData.canLay0] using h)
  | .dict _, h => by simp [PyData.canLay0] at h
theorem canLays_flat : ∀ ds : List D, PyData.canLayAll0 ds = true → flatDs ds = true
  | [], _ => rfl
  | d :: ds, h => by
    have h' : d.canLay0 = true ∧ PyData.canLayAll0 ds = true := by simpa [PyData.canLayAll0] using h
    show (flatD d && flatDs ds) = true
    rw [canLay_flat d h'.1, canLays_flat ds h'.2]
    rfl
end
mutual
theorem fz_dp : ∀ {v : V} {d : D}, Fz K H v d → flatD d = true → Dp K H v d
  | _, _, .non, _ => .non
  | _, _, .bl b, _ => .bl b
  | _, _, .int i, _ => .int i
  | _, _, .str x, _ => .str x
  | _, _, .lst h t, e => .lst (.of h) (fz_dps t e)
  | _, _, .tup h t, e => .tup h (fz_dps t e)
  | _, _, .dct _ _, e => absurd (show false = true from e) Bool.false_ne_true
theorem fz_dps : ∀ {vs : List V} {ds : List D}, FzA K H vs ds → flatDs ds = true → DpAll K H vs ds
  | _, _, .nil, _ => .nil
  | _, _, .cons h t, e => by
    have e' : (flatD _ && flatDs _) = true := e
    rw [Bool.and_eq_true] at e'
    exact .cons (fz_dp h e'.1) (fz_dps t e'.2)
end
theorem shaped_dp {v : V} {d : D} (h : Fz K H v d) (e : SeqAt.shaped d = true) : Dp K H v d := fz_dp h (canLay_flat d (SeqAt.canLay_of_shaped e))
end

/-! ### lists of one kind -/
def asInts : List D → Option (List Int)
  | [] => some []
  | .int i :: r => (asInts r).map (i :: ·)
  | _ => none
def asStrs : List D → Option (List Str)
  | [] => some []
  | .str i :: r => (asStrs r).map (i :: ·)
  | _ => none
def asBools : List D → Option (List Bool)
  | [] => some []
  | .bool i :: r => (asBools r).map (i :: ·)
  | _ => none
theorem asInts_eq : ∀ {ds : List D} {ns : List Int}, asInts ds = some ns → ds = ns.map PyData.int
  | [], ns, h => by cases h; rfl
  | .int i :: r, ns, h => by
    have h' : (asInts r).map (i :: ·) = some ns := h
    cases e : asInts r with
    | none => rw [e] at h'; cases h'
    | some l =>
      rw [e] at h'; cases h'
      rw [asInts_eq e]; rfl
theorem asStrs_eq : ∀ {ds : List D} {ns : List Str}, asStrs ds = some ns → ds = ns.map PyData.str
  | [], ns, h => by cases h; rfl
  | .str i :: r, ns, h => by
    have h' : (asStrs r).map (i :: ·) = some ns := h
    cases e : asStrs r with
    | none => rw [e] at h'; cases h'
    | some l =>
      rw [e] at h'; cases h'
      rw [asStrs_eq e]; rfl
theorem asBools_eq : ∀ {ds : List D} {ns : List Bool}, asBools ds = some ns → ds = ns.map PyData.bool
  | [], ns, h => by cases h; rfl
  | .bool i :: r, ns, h => by
    have h' : (asBools r).map (i :: ·) = some ns := h
    cases e : asBools r with
    | none => rw [e] at h'; cases h'
    | some l =>
      rw [e] at h'; cases h'
      rw [asBools_eq e]; rfl
theorem asInts_map : ∀ (ns : List Int), asInts (ns.map PyData.int) = some ns
  | [] => rfl
  | n :: ns => by show (asInts (ns.map PyData.int)).map (n :: ·) = _; rw [asInts_map ns]; rfl
theorem asStrs_map : ∀ (ns : List Str), asStrs (ns.map PyData.str) = some ns
  | [] => rfl
  | n :: ns => by show (asStrs (ns.map PyData.str)).map (n :: ·) = _; rw [asStrs_map ns]; rfl
theorem asBools_map : ∀ (ns : List Bool), asBools (ns.map PyData.bool) = some ns
  | [] => rfl
  | n :: ns => by show (asBools (ns.map PyData.bool)).map (n :: ·) = _; rw [asBools_map ns]; rfl

theorem rvI {K : PySem.W.Frag} {W : Wd} {Hs F H : Hp} {i : Int} : Rv K W Hs F H (.int i) (.fz (.int i)) := Fz.int i
theorem rvS {K : PySem.W.Frag} {W : Wd} {Hs F H : Hp} {i : Str} : Rv K W Hs F H (.str i) (.fz (.str i)) := Fz.str i
theorem rvB {K : PySem.W.Frag} {W : Wd} {Hs F H : Hp} {i : Bool} : Rv K W Hs F H (.bl i) (.fz (.bool i)) := Fz.bl i
section
variable {X : Cx} {W : Wd} {a b c e : Expr} {es : List Expr} {wa wb we : WE} {ws : WA} {pos p p2 : Pos}

/-! ### operators -/
def CM (i j : Int) : Prop := CMul i j ∨ CMulW i j
def oAdd : O2 := fun x y P => match x.rd, y.rd with
  | some (.int i), some (.int j) => P (.fz (.int (i + j)))
  | some (.str s), some (.str t) => s.length + t.length ≤ sizeLine ∧ P (.fz (.str (s ++ t)))
  | some (.list ds), some (.list es) => ds.length + es.length ≤ sizeLine ∧ P (.tmp (ds ++ es))
  | _, _ => False
theorem od_add : OpD X W (binaryOp .Add) oAdd := by
  refine ⟨_, (op_add.or op_add_str).or op_cat, fun Hs F H x y rx ry P Q fh hx hy o k => ?_⟩
  unfold oAdd at o
  split at o
  · rename_i i j ex ey
    exact .inl (.inl ⟨i, j, hx.int ex, hy.int ey, k _ _ F H o .same rvI⟩)
  · rename_i s t ex ey
    exact .inl (.inr ⟨s, t, hx.str ex, hy.str ey, o.1, k _ _ F H o.2 .same rvS⟩)
  · rename_i ds es ex ey
    obtain ⟨l, xs, e1, h1, f1⟩ := hx.items fh ex
    obtain ⟨l', ys, e2, h2, f2⟩ := hy.items fh ey
    refine .inr ⟨l, l', xs, ys, e1, e2, h1, h2, by rw [f1.length, f2.length]; exact o.1, fun q hq => ?_⟩
    exact k _ _ F _ o.2 (.own hq) ⟨q, xs ++ ys, rfl, hq, upd_same, fh.free hq, f1.append f2⟩
  · exact o.elim
def oInt (f : Int → Int → Int) (C : Int → Int → Prop) : O2 := fun x y P => match x.rd, y.rd with
  | some (.int i), some (.int j) => C i j ∧ P (.fz (.int (f i j)))
  | _, _ => False
theorem od_int {op : Operator} {f : Int → Int → Int} {C : Int → Int → Prop} (h : OpR X (binaryOp op) (rI C fun i j => .int (f i j))) : OpD X W (binaryOp op) (oInt f C) := by
  refine ⟨_, h, fun Hs F H x y rx ry P Q fh hx hy o k => ?_⟩
  unfold oInt at o
  split at o
  · rename_i i j ex ey
    exact ⟨i, j, hx.int ex, hy.int ey, o.1, k _ _ F H o.2 .same rvI⟩
  · exact o.elim
def oSub : O2 := oInt (fun i j => i - j) fun _ _ => True
theorem od_sub : OpD X W (binaryOp .Sub) oSub := by
  refine ⟨_, op_sub, fun Hs F H x y rx ry P Q fh hx hy o k => ?_⟩
  unfold oSub oInt at o
  split at o
  · rename_i i j ex ey
    exact ⟨i, j, hx.int ex, hy.int ey, k _ _ F H o.2 .same rvI⟩
  · exact o.elim
def oMod : O2 := oInt (fun i j => i % j) fun _ j => 0 < j
theorem od_mod : OpD X W (binaryOp .Mod) oMod := od_int op_mod
def oDiv : O2 := oInt (fun i j => i / j) CDivW
theorem od_div : OpD X W (binaryOp .FloorDiv) oDiv := od_int op_fdivW
/-- powers -/
def CP (i j : Int) : Prop := 0 ≤ j ∧ (Builtin.Int.intBits i : Int) * j ≤ 2 ^ 27
theorem op_powB : OpR X (binaryOp .Pow) (rI CP fun i j => .int (i ^ j.toNat)) := opI fun _ _ _ _ _ _ _ hc q => pow_int hc.1 hc.2 q
def oPow : O2 := oInt (fun i j => i ^ j.toNat) CP
theorem od_pow : OpD X W (binaryOp .Pow) oPow := od_int op_powB
/-- a text so many times -/
theorem op_mul_strN : OpR X (binaryOp .Mult) (fun x y H Q => ∃ z k, x = .str z ∧ y = .int k ∧ 0 ≤ k ∧ k < 2 ^ 30 ∧ z.length * k.toNat ≤ 2 ^ 20 ∧ ∀ t : Str, t = ⟨(List.replicate k.toNat z.cps.toList).flatten.toArray⟩ → Q (.str t) H) := by
  intro pins s σ H x y v u Q I rx ry h
  obtain ⟨z, k, rfl, rfl, h0, h1, h2, q⟩ := h
  obtain ⟨t, rfl⟩ := rx
  obtain ⟨t', rfl⟩ := ry
  have long : Builtin.Str.tooLong (z.length * k.toNat) = false := decide_eq_false (Nat.not_lt.mpr (Nat.le_trans h2 (by decide)))
  have flat : ∀ (n : Nat) (acc : List Nat), ((List.replicate n z.cps).foldl (· ++ ·) acc.toArray).toList = acc ++ (List.replicate n z.cps.toList).flatten := by
    intro n
    induction n with
    | zero => intro acc; simp
    | succ n ih =>
      intro acc
      rw [List.replicate_succ, List.foldl_cons, List.replicate_succ, List.flatten_cons]
      have e : acc.toArray ++ z.cps = (acc ++ z.cps.toList).toArray := by simp
      rw [e, ih, List.append_assoc]
  have txt : (⟨(List.replicate k.toNat z.cps).foldl (· ++ ·) #[]⟩ : Str) = ⟨(List.replicate k.toNat z.cps.toList).flatten.toArray⟩ := by
    have e := flat k.toNat []
    rw [List.nil_append] at e
    rw [← e]
  refine PySem.P.mul_str ?_ (fun hk _ c => ?_) (fun _ _ => long) ?_
  · rw [decide_eq_false (by omega : ¬ k < -(2 ^ 63 : Int)), decide_eq_false (by omega : ¬ k ≥ 2 ^ 63)]
    rfl
  · have c1 : (2 ^ 63 - 1 : Int) / k < (z.length : Int) := c
    have c2 : (2 ^ 63 - 1 : Int) < (z.length : Int) * k := by
      have := (Int.ediv_lt_iff_lt_mul (by omega : 0 < k)).mp c1
      exact this
    have c3 : (z.length : Int) * k = ((z.length * k.toNat : Nat) : Int) := by
      rw [Int.natCast_mul, Int.toNat_of_nonneg h0]
    rw [c3] at c2
    omega
  · split
    · rename_i hk
      have e : k = 0 := by omega
      subst e
      exact ⟨by decide, .str _, H, I.tok _, ⟨_, rfl⟩, q _ rfl⟩
    · split
      · rename_i hk hc
        refine ⟨.str z, H, I, ⟨t, rfl⟩, q z ?_⟩
        rw [Bool.or_eq_true] at hc
        rcases hc with hc | hc
        · have e : k = 1 := by simpa using hc
          subst e
          simp
        · have e : z.cps = #[] := by
            have : z.cps.size = 0 := by simpa [Str.length] using hc
            exact Array.eq_empty_of_size_eq_zero this
          obtain ⟨zc⟩ := z
          simp only at e
          subst e
          simp
      · rw [txt]
        refine ⟨?_, .str _, H, I.tok _, ⟨_, rfl⟩, q _ rfl⟩
        show ((List.replicate k.toNat z.cps.toList).flatten.toArray).size ≤ sizeLine
        have e : ((List.replicate k.toNat z.cps.toList).flatten.toArray).size = k.toNat * z.length := by
          simp [Str.length]
        rw [e, Nat.mul_comm]
        exact Nat.le_trans h2 (by decide)
def oMul : O2 := fun x y P => match x.rd, y.rd with
  | some (.int i), some (.int j) => CM i j ∧ P (.fz (.int (i * j)))
  | some (.list ds), some (.int k) => (-(2 ^ 63) ≤ k ∧ k < 2 ^ 63 ∧ ds.length * k.toNat ≤ sizeLine) ∧ P (.tmp (List.replicate k.toNat ds).flatten)
  | some (.str z), some (.int k) => (0 ≤ k ∧ k < 2 ^ 30 ∧ z.length * k.toNat ≤ 2 ^ 20) ∧ P (.fz (.str ⟨(List.replicate k.toNat z.cps.toList).flatten.toArray⟩))
  | _, _ => False
theorem FzA.rep {K : PySem.W.Frag} {F : Hp} {vs : List V} {ds : List D} (h : FzA K F vs ds) : ∀ k : Nat, FzA K F (List.replicate k vs).flatten (List.replicate k ds).flatten
  | 0 => .nil
  | k + 1 => by
    rw [List.replicate_succ, List.replicate_succ, List.flatten_cons, List.flatten_cons]
    exact h.append (FzA.rep h k)
theorem od_mul : OpD X W (binaryOp .Mult) oMul := by
  refine ⟨_, ((op_mul.or op_mulW).or op_rep).or op_mul_strN, fun Hs F H x y rx ry P Q fh hx hy o k => ?_⟩
  unfold oMul at o
  split at o
  · rename_i i j ex ey
    rcases o.1 with c | c
    · exact .inl (.inl (.inl ⟨i, j, hx.int ex, hy.int ey, c, k _ _ F H o.2 .same rvI⟩))
    · exact .inl (.inl (.inr ⟨i, j, hx.int ex, hy.int ey, c, k _ _ F H o.2 .same rvI⟩))
  · rename_i ds j ex ey
    obtain ⟨l, xs, e1, h1, f1⟩ := hx.items fh ex
    refine .inl (.inr ⟨l, j, xs, e1, hy.int ey, h1, o.1.1, o.1.2.1, by rw [f1.length]; exact o.1.2.2, fun q hq => ?_⟩)
    exact k _ _ F _ o.2 (.own hq) ⟨q, _, rfl, hq, upd_same, fh.free hq, f1.rep _⟩
  · rename_i z j ex ey
    exact .inr ⟨z, j, hx.str ex, hy.int ey, o.1.1, o.1.2.1, o.1.2.2, fun t et => by subst et; exact k _ _ F H o.2 .same rvS⟩
  · exact o.elim
def oNeg : O1 := fun x P => match x.rd with
  | some (.int i) => P (.fz (.int (-i)))
  | _ => False
theorem ud_neg : UnD X W (unaryOp .USub) oNeg := by
  refine ⟨_, un_neg, fun Hs F H x rx P Q fh hx o k => ?_⟩
  unfold oNeg at o
  split at o
  · rename_i i ex
    exact ⟨i, hx.int ex, k _ _ F H o .same rvI⟩
  · exact o.elim

/-! ### comparisons -/
def oEq (neg : Bool) : O2 := fun x y P => match x.rd, y.rd with
  | some (.str s), some (.str t) => P (.fz (.bool (if neg then !(s == t) else s == t)))
  | some d, some e => SeqAt.shaped d = true ∧ SeqAt.shaped e = true ∧ P (.fz (.bool (if neg then !PyData.eqv d e else PyData.eqv d e)))
  | _, _ => False
theorem od_eq (hu : X.A.units + 64 < cLine) : OpD X W (compareOp .Eq) (oEq false) := by
  refine ⟨_, op_eq.or (op_eqD hu), fun Hs F H x y rx ry P Q fh hx hy o k => ?_⟩
  unfold oEq at o
  split at o
  · rename_i s t ex ey
    refine .inl ⟨by rw [hx.str ex, hy.str ey]; rfl, ?_⟩
    rw [hx.str ex, hy.str ey, dec_str]
    exact k _ _ F H o .same rvB
  · rename_i d e _ ex ey
    exact .inr ⟨d, e, shaped_dp (hx.read fh ex) o.1, shaped_dp (hy.read fh ey) o.2.1, o.1, o.2.1, k _ _ F H o.2.2 .same rvB⟩
  · exact o.elim
theorem od_ne (hu : X.A.units + 64 < cLine) : OpD X W (compareOp .NotEq) (oEq true) := by
  refine ⟨_, op_ne.or (op_neD hu), fun Hs F H x y rx ry P Q fh hx hy o k => ?_⟩
  unfold oEq at o
  split at o
  · rename_i s t ex ey
    refine .inl ⟨by rw [hx.str ex, hy.str ey]; rfl, ?_⟩
    rw [hx.str ex, hy.str ey, dec_str]
    exact k _ _ F H o .same rvB
  · rename_i d e _ ex ey
    exact .inr ⟨d, e, shaped_dp (hx.read fh ex) o.1, shaped_dp (hy.read fh ey) o.2.1, o.1, o.2.1, k _ _ F H o.2.2 .same rvB⟩
  · exact o.elim
/-- of whole numbers, of texts -/
def oOrd (f : Int → Int → Bool) (g : List Nat → List Nat → Bool) : O2 := fun x y P => match x.rd, y.rd with
  | some (.int i), some (.int j) => P (.fz (.bool (f i j)))
  | some (.str s), some (.str t) => P (.fz (.bool (g s.cps.toList t.cps.toList)))
  | _, _ => False
theorem od_ord {op : CmpOp} {f : Int → Int → Bool} {g : List Nat → List Nat → Bool} (h : OpR X (compareOp op) (rI0 fun i j => .bl (f i j)))
    (h' : OpR X (compareOp op) (fun x y H Q => ∃ i j : Str, x = .str i ∧ y = .str j ∧ Q (.bl (g i.cps.toList j.cps.toList)) H)) : OpD X W (compareOp op) (oOrd f g) := by
  refine ⟨_, h.or h', fun Hs F H x y rx ry P Q fh hx hy o k => ?_⟩
  unfold oOrd at o
  split at o
  · rename_i i j ex ey
    exact .inl ⟨i, j, hx.int ex, hy.int ey, k _ _ F H o .same rvB⟩
  · rename_i i j ex ey
    exact .inr ⟨i, j, hx.str ex, hy.str ey, k _ _ F H o .same rvB⟩
  · exact o.elim
def oLt : O2 := oOrd (fun i j => decide (i < j)) fun s t => decide (s < t)
def oLe : O2 := oOrd (fun i j => decide (i ≤ j)) fun s t => !decide (t < s)
def oGt : O2 := oOrd (fun i j => decide (j < i)) fun s t => decide (t < s)
def oGe : O2 := oOrd (fun i j => decide (j ≤ i)) fun s t => !decide (s < t)
theorem od_lt : OpD X W (compareOp .Lt) oLt := od_ord (g := fun s t => decide (s < t)) op_lt op_lt_str
theorem od_le : OpD X W (compareOp .LtE) oLe := od_ord (g := fun s t => !decide (t < s)) op_le op_le_str
theorem od_gt : OpD X W (compareOp .Gt) oGt := od_ord (g := fun s t => decide (t < s)) op_gt op_gt_str
theorem od_ge : OpD X W (compareOp .GtE) oGe := od_ord (g := fun s t => !decide (s < t)) op_ge op_ge_str
/-- the module's constants -/
theorem pd_gstr {x z : Str} {t : Tok} (hg : Gl X x) (hm : X.mg x = some (.str z t)) (hd : (x == ("__debug__" : Str)) = false := by decide) : PD X W (.Name x pos) (wC (.str z)) := pd_c (pe_glob (v := .str z) hg hm ⟨t, rfl⟩ hd) fun _ => .str z
theorem pd_gint {x : Str} {z : Int} {t : Tok} (hg : Gl X x) (hm : X.mg x = some (.int z t)) (hd : (x == ("__debug__" : Str)) = false := by decide) : PD X W (.Name x pos) (wC (.int z)) := pd_c (pe_glob (v := .int z) hg hm ⟨t, rfl⟩ hd) fun _ => .int z
def isNon : D → Bool
  | .none => true
  | _ => false
/-- is None, is a truth value -/
def oIs (neg : Bool) : O2 := fun x y P => match y.rd with
  | some .none => match x.rd with
    | some d => P (.fz (.bool (if neg then !isNon d else isNon d)))
    | none => False
  | some (.bool b) => match x.rd with
    | some (.bool a) => P (.fz (.bool (if neg then !(a == b) else (a == b))))
    | _ => False
  | _ => False
theorem fz_non {K : PySem.W.Frag} {F : Hp} {v : V} {d : D} (h : Fz K F v d) : decide (v = V.non) = isNon d := by
  cases h <;> simp [isNon]
theorem od_is : OpD X W (compareOp .Is) (oIs false) := by
  refine ⟨_, op_isN.or op_isBl, fun Hs F H x y rx ry P Q fh hx hy o k => ?_⟩
  unfold oIs at o
  split at o
  · rename_i ey
    split at o
    · rename_i d ex
      refine .inl ⟨hy.non ey, ?_⟩
      rw [fz_non (hx.read fh ex)]
      exact k _ _ F H o .same rvB
    · exact o.elim
  · rename_i b ey
    split at o
    · rename_i a ex
      refine .inr ⟨a, b, hx.bool ex, hy.bool ey, ?_⟩
      have e : decide (a = b) = (a == b) := by cases a <;> cases b <;> rfl
      rw [e]
      exact k _ _ F H o .same rvB
    · exact o.elim
  · exact o.elim
theorem od_isnot : OpD X W (compareOp .IsNot) (oIs true) := by
  refine ⟨_, op_notN.or op_notBl, fun Hs F H x y rx ry P Q fh hx hy o k => ?_⟩
  unfold oIs at o
  split at o
  · rename_i ey
    split at o
    · rename_i d ex
      refine .inl ⟨hy.non ey, ?_⟩
      rw [fz_non (hx.read fh ex)]
      exact k _ _ F H o .same rvB
    · exact o.elim
  · rename_i b ey
    split at o
    · rename_i a ex
      refine .inr ⟨a, b, hx.bool ex, hy.bool ey, ?_⟩
      have e : decide (a = b) = (a == b) := by cases a <;> cases b <;> rfl
      rw [e]
      exact k _ _ F H o .same rvB
    · exact o.elim
  · exact o.elim
/-- in: a sign in a text; data in a list -/
def oIn (neg : Bool) : O2 := fun x y P => match y.rd with
  | some (.str z) => match x.rd with
    | some (.str c) => c.cps.size = 1 ∧ P (.fz (.bool (if neg then !(decide (c.cps.getD 0 0 ∈ z.cps.toList)) else decide (c.cps.getD 0 0 ∈ z.cps.toList))))
    | _ => False
  | some (.list ds) => match x.rd with
    | some d => SeqAt.shaped d = true ∧ SeqAt.shaped (.list ds) = true ∧ P (.fz (.bool (if neg then !(ds.any fun z => PyData.eqv z d) else ds.any fun z => PyData.eqv z d)))
    | none => False
  | _ => False
theorem sign_eta {c : Str} (h : c.cps.size = 1) : c = ⟨#[c.cps.getD 0 0]⟩ := by
  obtain ⟨⟨l⟩⟩ := c
  match l, h with
  | [a], _ => rfl
theorem od_in (hu : X.A.units + 65 < cLine) : OpD X W (compareOp .In) (oIn false) := by
  refine ⟨_, op_in_sign.or (op_inD hu), fun Hs F H x y rx ry P Q fh hx hy o k => ?_⟩
  unfold oIn at o
  split at o
  · rename_i z ey
    split at o
    · rename_i c ex
      refine .inl ⟨_, z, ?_, hy.str ey, k _ _ F H o.2 .same rvB⟩
      rw [hx.str ex]
      exact congrArg V.str (sign_eta o.1)
    · exact o.elim
  · rename_i ds ey
    split at o
    · rename_i d ex
      exact .inr ⟨d, ds, shaped_dp (hx.read fh ex) o.1, shaped_dp (hy.read fh ey) o.2.1, o.1, o.2.1, k _ _ F H o.2.2 .same rvB⟩
    · exact o.elim
  · exact o.elim
theorem od_notin (hu : X.A.units + 65 < cLine) : OpD X W (compareOp .NotIn) (oIn true) := by
  refine ⟨_, op_notIn_sign.or (op_notInD hu), fun Hs F H x y rx ry P Q fh hx hy o k => ?_⟩
  unfold oIn at o
  split at o
  · rename_i z ey
    split at o
    · rename_i c ex
      refine .inl ⟨_, z, ?_, hy.str ey, k _ _ F H o.2 .same rvB⟩
      rw [hx.str ex]
      exact congrArg V.str (sign_eta o.1)
    · exact o.elim
  · rename_i ds ey
    split at o
    · rename_i d ex
      exact .inr ⟨d, ds, shaped_dp (hx.read fh ex) o.1, shaped_dp (hy.read fh ey) o.2.1, o.1, o.2.1, k _ _ F H o.2.2 .same rvB⟩
    · exact o.elim
  · exact o.elim

/-! ### isinstance -/
def wIsi (T : Ty) (we : WE) : WE := fun ρ n Q => we ρ n fun r n' => match r.rd with
  | some d => Q (.fz (.bool (isOf T d))) n'
  | none => False
theorem pd_isi (T : Ty) {tn : Str} (hg : Gl X "isinstance") (hm : X.mg "isinstance" = none) (hg2 : Gl X tn) (hm2 : X.mg tn = none) (hb2 : bootBuiltins tn = some (.type T.nm)) (he : PD X W e we)
    (hn : tn ≠ "__name__" := by decide) (hd : (tn == ("__debug__" : Str)) = false := by decide)
    (hs : starEach (e :: [.Name tn p2]) X.env = (false, eval e X.env) :: starEach [.Name tn p2] X.env := by rfl) (hpl : (backTo pos (starEach [.Name tn p2] X.env)).any (·.1) = false := by rfl) :
    PD X W (.Call (.Name "isinstance" p) [e, .Name tn p2] [] pos) (wIsi T we) :=
  imE (pe_callB call_isi hg hm (by decide +kernel) (pa_cons he (pa_cons (pe_bltn (v := .ty T.nm) hg2 hm2 hb2 rfl hn hd) pa_nil) hs) (he := hs) (hpl := hpl)) fun σ H Q ⟨F, ρ, n, P, m, h, k⟩ => by
  refine ⟨F, ρ, n, _, m, h, fun r n' v F' H' q x m' rv => ?_⟩
  split at q
  · rename_i d hd
    exact ⟨v, .ty T.nm, _, _, isOf T d, rfl, .ty _, fz_ty (rv.read m'.fh hd), kit_ty (kitB_is T d), k _ n' _ F' H' q x m' rvB⟩
  · exact q.elim

/-! ### built-ins -/
theorem ra1 {K : PySem.W.Frag} {F H : Hp} {vs : List V} {r : RV} (h : RA K W F H vs [r]) : ∃ v, vs = [v] ∧ Rv K W H F H v r := by
  cases h with
  | cons a _ t =>
    cases t
    exact ⟨_, rfl, a⟩
theorem ra2 {K : PySem.W.Frag} {F H : Hp} {vs : List V} {r r' : RV} (h : RA K W F H vs [r, r']) : ∃ v v', vs = [v, v'] ∧ Rv K W H F H v r ∧ Rv K W H F H v' r' := by
  cases h with
  | cons a _ t =>
    obtain ⟨v', rfl, b⟩ := ra1 t
    exact ⟨_, _, rfl, a, b⟩
def o1 (f : D → (RV → Prop) → Prop) : OC := fun rs P => match rs with
  | [r] => match r.rd with
    | some d => f d P
    | none => False
  | _ => False
theorem cd_1 {f : Value} {r : List V → Hp → VK → Prop} {g : D → (RV → Prop) → Prop} (hc : CallR X f r)
    (h : ∀ (F H : Hp) (v : V) (rx : RV) (d : D) (P : RV → Prop) (Q : VK), Same F H → Rv X.K W H F H v rx → rx.rd = some d → g d P → (∀ rz v F' H', P rz → Nxt F H F' H' → Rv X.K W H F' H' v rz → Q v H') → r [v] H Q) : CaD X W f (o1 g) := by
  refine ⟨r, hc, fun F H xs rs P Q fh ra o k => ?_⟩
  unfold o1 at o
  split at o
  · rename_i rx
    obtain ⟨v, rfl, a⟩ := ra1 ra
    split at o
    · rename_i d hd
      exact h F H v rx d P Q fh a hd o k
    · exact o.elim
  · exact o.elim
def oLen : OC := o1 fun d P => match d with
  | .list ds => P (.fz (.int ds.length))
  | .tuple ds => P (.fz (.int ds.length))
  | .str z => z.length ≤ sizeLine ∧ P (.fz (.int z.length))
  | _ => False
theorem cd_len : CaD X W (.builtin "len") oLen := cd_1 (call_len_seq.or call_len_str) fun F H v rx d P Q fh a hd o k => by
  split at o
  · rename_i ds
    obtain ⟨l, xs, e1, h1, f1⟩ := a.items fh hd
    subst e1
    refine .inl ⟨l, xs, rfl, .inl (.of h1), ?_⟩
    rw [f1.length]
    exact k _ _ F H o .same rvI
  · rename_i ds
    obtain ⟨l, xs, e1, h1, f1⟩ := a.titems fh hd
    subst e1
    refine .inl ⟨l, xs, rfl, .inr h1, ?_⟩
    rw [f1.length]
    exact k _ _ F H o .same rvI
  · rename_i z
    exact .inr ⟨z, by rw [a.str hd], o.1, k _ _ F H o.2 .same rvI⟩
  · exact o.elim
def oAll : OC := o1 fun d P => match d with
  | .list ds => match asBools ds with
    | some bs => P (.fz (.bool (bs.all id)))
    | none => False
  | _ => False
def oAny : OC := o1 fun d P => match d with
  | .list ds => match asBools ds with
    | some bs => P (.fz (.bool (bs.any id)))
    | none => False
  | _ => False
theorem cd_all (hc : X.calm = true) : CaD X W (.builtin "all") oAll := cd_1 (cr_all hc) fun F H v rx d P Q fh a hd o k => by
  split at o
  · rename_i ds
    split at o
    · rename_i bs hb
      obtain ⟨l, xs, e1, h1, f1⟩ := a.items fh hd
      rw [asBools_eq hb] at f1
      rw [fz_bools _ _ f1] at h1
      exact ⟨l, bs, by rw [e1], .of h1, k _ _ F H o .same rvB⟩
    · exact o.elim
  · exact o.elim
theorem cd_any (hc : X.calm = true) : CaD X W (.builtin "any") oAny := cd_1 (cr_any hc) fun F H v rx d P Q fh a hd o k => by
  split at o
  · rename_i ds
    split at o
    · rename_i bs hb
      obtain ⟨l, xs, e1, h1, f1⟩ := a.items fh hd
      rw [asBools_eq hb] at f1
      rw [fz_bools _ _ f1] at h1
      exact ⟨l, bs, by rw [e1], .of h1, k _ _ F H o .same rvB⟩
    · exact o.elim
  · exact o.elim
def oSum : OC := o1 fun d P => match d with
  | .list ds => match asInts ds with
    | some ns => P (.fz (.int ns.sum))
    | none => False
  | _ => False
theorem cd_sum (hc : X.calm = true) : CaD X W (.builtin "sum") oSum := cd_1 (cr_sum hc) fun F H v rx d P Q fh a hd o k => by
  split at o
  · rename_i ds
    split at o
    · rename_i ns hb
      obtain ⟨l, xs, e1, h1, f1⟩ := a.items fh hd
      rw [asInts_eq hb] at f1
      rw [fz_ints _ _ f1] at h1
      exact ⟨l, ns, by rw [e1], .of h1, k _ _ F H o .same rvI⟩
    · exact o.elim
  · exact o.elim
/-- sorted: whole numbers, or texts -/
def oSorted : OC := o1 fun d P => match d with
  | .list ds => match asInts ds with
    | some ns => ∀ ns' : List Int, ns'.Perm ns → ns'.Pairwise (· ≤ ·) → P (.tmp (ns'.map PyData.int))
    | none => match asStrs ds with
      | some ss => ss.length < 64 ∧ ∀ ys : List Str, ys.Perm ss → sortedS ys = true → P (.tmp (ys.map PyData.str))
      | none => False
  | _ => False
theorem cd_sorted : CaD X W (.builtin "sorted") oSorted := cd_1 (cr_sortedI.or cr_sortedS) fun F H v rx d P Q fh a hd o k => by
  split at o
  · rename_i ds
    obtain ⟨l, xs, e1, h1, f1⟩ := a.items fh hd
    split at o
    · rename_i ns hb
      rw [asInts_eq hb] at f1
      rw [fz_ints _ _ f1] at h1
      exact .inl ⟨l, ns, by rw [e1], .of h1, fun ns' q pm pw hq => k _ _ F _ (o ns' pm pw) (.own hq) ⟨q, _, rfl, hq, upd_same, fh.free hq, ints_fz _⟩⟩
    · split at o
      · rename_i ss hb
        rw [asStrs_eq hb] at f1
        rw [fz_strs _ _ f1] at h1
        exact .inr ⟨l, ss, by rw [e1], .of h1, o.1, fun ys q pm pw hq => k _ _ F _ (o.2 ys pm pw) (.own hq) ⟨q, _, rfl, hq, upd_same, fh.free hq, strs_fz _⟩⟩
      · exact o.elim
  · exact o.elim
def oTuple : OC := o1 fun d P => match d with
  | .list ds => P (.fz (.tuple ds))
  | .tuple ds => P (.fz (.tuple ds))
  | _ => False
theorem cd_tuple : CaD X W (.type "tuple") oTuple := cd_1 call_tuple_of fun F H v rx d P Q fh a hd o k => by
  split at o
  · rename_i ds
    obtain ⟨l, xs, e1, h1, f1⟩ := a.items fh hd
    refine ⟨l, xs, by rw [e1], .inl ⟨.of h1, fun q hq => ?_⟩⟩
    have ff : Same F (upd F q (.tup xs)) := fun a u e => by rw [upd_ne (ne_of_none e (fh.free hq))]; exact e
    exact k _ _ _ _ o (.frz hq) (show Fz X.K _ _ _ from .tup (.of upd_same) (f1.mono ff))
  · rename_i ds
    obtain ⟨l, xs, e1, h1, f1⟩ := a.titems fh hd
    refine ⟨l, xs, by rw [e1], .inr ⟨h1, ?_⟩⟩
    rw [← e1]
    refine k _ v F H o .same ?_
    cases rx with
    | fz d => cases hd; exact a
    | _ => cases hd
  · exact o.elim
def oIntOf : OC := o1 fun d P => match d with
  | .int i => P (.fz (.int i))
  | .bool k => P (.fz (.int (if k then 1 else 0)))
  | _ => False
theorem cd_intOf : CaD X W (.type "int") oIntOf := cd_1 call_int1 fun F H v rx d P Q fh a hd o k => by
  split at o
  · exact .inl ⟨_, by rw [a.int hd], k _ _ F H o .same rvI⟩
  · exact .inr ⟨_, by rw [a.bool hd], k _ _ F H o .same rvI⟩
  · exact o.elim
def oStrOf : OC := o1 fun d P => match d with
  | .int i => i.natAbs.log2 < 1920 ∧ P (.fz (.str (toString i : String)))
  | _ => False
theorem cd_strOf : CaD X W (.type "str") oStrOf := cd_1 call_str_int fun F H v rx d P Q fh a hd o k => by
  split at o
  · exact ⟨_, by rw [a.int hd], o.1, k _ _ F H o.2 .same rvS⟩
  · exact o.elim
def oMax2 : OC := fun rs P => match rs with
  | [r, r'] => match r.rd, r'.rd with
    | some (.int i), some (.int j) => P (.fz (.int (if j > i then j else i)))
    | _, _ => False
  | _ => False
theorem cd_max2 (hc : X.calm = true) : CaD X W (.builtin "max") oMax2 := by
  refine ⟨_, call_max2 hc, fun F H xs rs P Q fh ra o k => ?_⟩
  unfold oMax2 at o
  split at o
  · obtain ⟨v, v', rfl, a, b⟩ := ra2 ra
    split at o
    · rename_i i j ei ej
      exact ⟨i, j, by rw [a.int ei, b.int ej], k _ _ F H o .same rvI⟩
    · exact o.elim
  · exact o.elim

/-! ### items, slices -/
def oIx : O2 := fun x y P => match x.rd, y.rd with
  | some (.list ds), some (.int i) => match atI ds i with
    | some d => P (.fz d)
    | none => False
  | some (.tuple ds), some (.int i) => match atI ds i with
    | some d => P (.fz d)
    | none => False
  | some (.str z), some (.int i) => z.length ≤ sizeLine ∧ match atI z.cps.toList i with
    | some c => P (.fz (.str ⟨#[c]⟩))
    | none => False
  | _, _ => False
theorem atI_fz {K : PySem.W.Frag} {F : Hp} {vs : List V} {ds : List D} {i : Int} {d : D} (h : FzA K F vs ds) (e : atI ds i = some d) : ∃ v, atI vs i = some v ∧ Fz K F v d := by
  unfold atI at e ⊢
  rw [h.length]
  cases q : ixN ds.length i with
  | none => rw [q] at e; cases e
  | some j =>
    rw [q] at e
    exact h.get e
theorem id_ix : IxD X W oIx := by
  refine ⟨_, ix_seq, fun Hs F H x y rx ry P Q fh hx hy o k => ?_⟩
  unfold oIx at o
  split at o
  · rename_i ds i ex ey
    obtain ⟨l, xs, e1, h1, f1⟩ := hx.items fh ex
    split at o
    · rename_i d hd
      obtain ⟨v, hv, fv⟩ := atI_fz f1 hd
      exact .inl ⟨l, xs, i, v, e1, hy.int ey, .of h1, hv, k _ v F H o .same fv⟩
    · exact o.elim
  · rename_i ds i ex ey
    obtain ⟨l, xs, e1, h1, f1⟩ := hx.titems fh ex
    split at o
    · rename_i d hd
      obtain ⟨v, hv, fv⟩ := atI_fz f1 hd
      exact .inr (.inl ⟨l, xs, i, v, e1, hy.int ey, h1, hv, k _ v F H o .same fv⟩)
    · exact o.elim
  · rename_i z i ex ey
    obtain ⟨hz, o⟩ := o
    split at o
    · rename_i c hc
      exact .inr (.inr ⟨z, i, c, hx.str ex, hy.int ey, hz, hc, k _ _ F H o .same rvS⟩)
    · exact o.elim
  · exact o.elim
abbrev WO := Rho → Nat → (Option Int → Nat → Prop) → Prop
def liftO (K : PySem.W.Frag) (W : Wd) (w : WO) : TO := fun σ H Q => ∃ F ρ n P, Mo K W F ρ n σ H ∧ w ρ n P ∧ ∀ o n' F' H', P o n' → Ext W F H F' H' → Mo K W F' ρ n' σ H' → Q o H'
abbrev PDO (X : Cx) (W : Wd) (e : Option Expr) (w : WO) : Prop := PO X e (liftO X.K W w)
theorem imO {X : Cx} {e : Option Expr} {t t' : TO} (h : PO X e t) (i : ∀ σ H Q, t' σ H Q → t σ H Q) : PO X e t' := ⟨fun pins s σ H Q I q => h.run pins s σ H Q I (i σ H Q q)⟩
def woNone : WO := fun _ n Q => Q none n
def woSome (we : WE) : WO := fun ρ n Q => we ρ n fun r n' => match r with
  | .fz (.int i) => Q (some i) n'
  | _ => False
theorem pdo_none : PDO X W none woNone := imO po_none fun σ H Q ⟨F, ρ, n, P, m, h, k⟩ => k _ n F H h .refl m
theorem pdo_some (he : PD X W e we) : PDO X W (some e) (woSome we) := imO (po_some he) fun σ H Q ⟨F, ρ, n, P, m, h, k⟩ => by
  refine ⟨F, ρ, n, _, m, h, fun r n' v F' H' q x m' rv => ?_⟩
  split at q
  · rename_i i
    exact ⟨i, rv.int rfl, k _ n' F' H' q x m'⟩
  · exact q.elim
abbrev OS := RV → Option Int → Option Int → (RV → Prop) → Prop
def SlD (X : Cx) (W : Wd) (o : OS) : Prop := ∃ r, SlR X r ∧ ∀ (Hs F H : Hp) (x : V) (rx : RV) (lo hi : Option Int) (P : RV → Prop) (Q : VK),
  Same F H → Rv X.K W Hs F H x rx → o rx lo hi P → (∀ rz v F' H', P rz → Nxt F H F' H' → Rv X.K W H F' H' v rz → Q v H') → r x lo hi H Q
def wSl (o : OS) (we : WE) (wl wh : WO) : WE := fun ρ n Q => we ρ n fun r n1 => wl ρ n1 fun lo n2 => wh ρ n2 fun hi n3 => o r lo hi fun z => Q z n3
theorem pd_slice {o : OS} {lo hi : Option Expr} {wl wh : WO} (ho : SlD X W o) (he : PD X W e we) (hl : PDO X W lo wl) (hh : PDO X W hi wh) : PD X W (.Subscript e (.Slice lo hi none p2) pos) (wSl o we wl wh) := by
  obtain ⟨r, hr, so⟩ := ho
  refine imE (pe_slice hr he hl hh) fun σ H Q ⟨F, ρ, n, P, m, h, k⟩ => ?_
  refine ⟨F, ρ, n, _, m, h, fun r0 n1 v F1 H1 q x1 m1 rv => ?_⟩
  refine ⟨F1, ρ, n1, _, m1, q, fun lo n2 F2 H2 q2 x2 m2 => ?_⟩
  refine ⟨F2, ρ, n2, _, m2, q2, fun hi n3 F3 H3 q3 x3 m3 => ?_⟩
  exact so H F3 H3 v r0 lo hi _ Q m3.fh (Rv.step m2 m.sg x3 (Rv.step m1 m.sg x2 rv)) q3 fun rz z F' H' p nx rv' => fin k ((x1.trans x2).trans x3) m3 p nx rv'
def cutD (ds : List D) (lo hi : Option Int) : List D := (ds.drop (HT.sIx ds.length 0 lo)).take (HT.sIx ds.length ds.length hi - HT.sIx ds.length 0 lo)
def oCut : OS := fun x lo hi P => match x.rd with
  | some (.list ds) => P (.tmp (cutD ds lo hi))
  | some (.str z) => z.length ≤ sizeLine ∧ P (.fz (.str (cutS z lo hi)))
  | _ => False
theorem sd_cut : SlD X W oCut := by
  refine ⟨_, sl_list.or sl_str, fun Hs F H x rx lo hi P Q fh hx o k => ?_⟩
  unfold oCut at o
  split at o
  · rename_i ds ex
    obtain ⟨l, xs, e1, h1, f1⟩ := hx.items fh ex
    refine .inl ⟨l, xs, e1, .of h1, fun q hq => ?_⟩
    refine k _ _ F _ o (.own hq) ⟨q, _, rfl, hq, upd_same, fh.free hq, ?_⟩
    unfold cutV cutD
    rw [f1.length]
    exact (f1.drop _).take _
  · rename_i z ex
    exact .inr ⟨z, hx.str ex, o.1, k _ _ F H o.2 .same rvS⟩
  · exact o.elim
def wRev (we : WE) : WE := fun ρ n Q => we ρ n fun r n' => match r.rd with
  | some (.list ds) => Q (.tmp ds.reverse) n'
  | _ => False
theorem pd_rev {k : Nat} {p1 p2 p3 : Pos} (he : PD X W e we) : PD X W (.Subscript e (.Slice none none (some (.UnaryOp .USub (.Constant (.int 1) k p1) p2)) p3) pos) (wRev we) := imE (pe_revL he) fun σ H Q ⟨F, ρ, n, P, m, h, k⟩ => by
  refine ⟨F, ρ, n, _, m, h, fun r n' v F' H' q x m' rv => ?_⟩
  split at q
  · rename_i ds hd
    obtain ⟨l, xs, e1, h1, f1⟩ := rv.items m'.fh hd
    refine ⟨l, xs, e1, .of h1, fun z hz => ?_⟩
    exact fin k x m' q (.own hz) ⟨z, _, rfl, hz, upd_same, m'.nof hz, f1.reverse⟩
  · exact q.elim

/-! ### methods -/
def wJoin (wa wb : WE) : WE := fun ρ n Q => wa ρ n fun r n1 => match r.rd with
  | some (.str z) => wb ρ n1 fun r' n2 => match r'.rd with
    | some (.list ds) => match asStrs ds with
      | some ys => ((ys.map (·.length)).sum + ys.length * z.length ≤ 16777216) ∧ Q (.fz (.str (Txt.join z ys))) n2
      | none => False
    | _ => False
  | _ => False
theorem pd_join {o : Expr} {apos : Pos} (ho : PD X W o wa) (he : PD X W e we) (hs : starEach [e] X.env = [(false, eval e X.env)] := by rfl) (hbase : attributeBase o "join" X.env (eval o X.env) = eval o X.env := by rfl) (hline : (apos.endLine == pos.line) = true := by rfl) :
    PD X W (.Call (.Attribute o "join" apos) [e] [] pos) (wJoin wa we) := imE (pe_join ho he hs hbase hline) fun σ H Q ⟨F, ρ, n, P, m, h, k⟩ => by
  refine ⟨F, ρ, n, _, m, h, fun r n1 v F1 H1 q x1 m1 rv => ?_⟩
  split at q
  · rename_i z hz
    refine ⟨⟨z, rv.str hz⟩, F1, ρ, n1, _, m1, q, fun r' n2 v' F2 H2 q2 x2 m2 rv2 => ?_⟩
    split at q2
    · rename_i ds hd
      split at q2
      · rename_i ys hy
        obtain ⟨l, xs, e1, h1, f1⟩ := rv2.items m2.fh hd
        rw [asStrs_eq hy] at f1
        rw [fz_strs _ _ f1] at h1
        exact ⟨z, l, ys, rv.str hz, by rw [e1], .inl (.of h1), q2.1, k _ n2 _ F2 H2 q2.2 (x1.trans x2) m2 rvS⟩
      · exact q2.elim
    · exact q2.elim
  · exact q.elim
def wBits (we : WE) : WE := fun ρ n Q => we ρ n fun r n' => match r.rd with
  | some (.int i) => Q (.fz (.int (Builtin.Int.intBits i : Nat))) n'
  | _ => False
theorem pd_bits {o : Expr} {apos : Pos} (ho : PD X W o wa) (hbase : attributeBase o "bit_length" X.env (eval o X.env) = eval o X.env := by rfl) (hline : (apos.endLine == pos.line) = true := by rfl) : PD X W (.Call (.Attribute o "bit_length" apos) [] [] pos) (wBits wa) := imE (pe_bits ho hbase hline) fun σ H Q ⟨F, ρ, n, P, m, h, k⟩ => by
  refine ⟨F, ρ, n, _, m, h, fun r n' v F' H' q x m' rv => ?_⟩
  split at q
  · rename_i i hi
    exact ⟨i, rv.int hi, k _ n' _ F' H' q x m' rvI⟩
  · exact q.elim

/-! ### repr -/
mutual
theorem flat_noDict : ∀ d : D, flatD d = true → d.hasDict = false
  | .none, _ => rfl
  | .bool _, _ => rfl
  | .int _, _ => rfl
  | .str _, _ => rfl
  | .list ds, h => by
    show PyData.hasDict (.list ds) = false
    unfold PyData.hasDict
    exact flats_noDict ds h
  | .tuple ds, h => by
    show PyData.hasDict (.tuple ds) = false
    unfold PyData.hasDict
    exact flats_noDict ds h
theorem flats_noDict : ∀ ds : List D, flatDs ds = true → PyData.hasDictAll ds = false
  | [], _ => rfl
  | d :: ds, h => by
    have h' : (flatD d && flatDs ds) = true := h
    rw [Bool.and_eq_true] at h'
    unfold PyData.hasDictAll
    rw [flat_noDict d h'.1, flats_noDict ds h'.2]
    rfl
end
end
end DL

namespace DL
open PySem PySem.Spec PyProof.Rows L2

def scalD : D → Bool
  | .none => true
  | .bool _ => true
  | .int _ => true
  | .str _ => true
  | _ => false
/-- what repr is served of: data without dicts, a dict of scalars -/
def reprOk (d : D) : Bool := flatD d || (match d with
  | .dict kvs => kvs.all fun p => scalD p.2
  | _ => false)
section
variable {X : Cx} {W : Wd} {pins : List (Addr × Obj)} {σ : L2.St} {H : Hp} {s : Shared}
theorem scal_reads {v : V} {d : D} {u : Value} (h : Fz X.K H v d) (r : RelV v u) (e : scalD d = true) : Reads s.heap u d [] := by
  cases h with
  | non => cases r; exact .none
  | bl b => cases r; exact .bool b
  | int i => obtain ⟨t, rfl⟩ := r; exact .int i t
  | str x => obtain ⟨t, rfl⟩ := r; exact .str x t
  | _ => cases e
theorem key_reads {k : Key} {u : Value} (h : keyIs k u = true) : Reads s.heap u (kD k) [] := by
  rcases keyIs_shape h with ⟨i, t, rfl, rfl⟩ | ⟨x, t, rfl, rfl⟩
  · exact .int i t
  · exact .str x t
theorem pairs_reads {P : Program} {w : World} : ∀ {es : List DictEntry} {vs : List (Key × Value)} {kvs : List (Key × V)} {ds : List D}, Pairs (mixKind P w) es vs → KV kvs vs → FzA X.K H (kvs.map (·.2)) ds → (ds.all scalD) = true →
    ReadsAll s.heap (es.map (·.key)) (((kvs.map fun p => kD p.1).zip ds).map (·.1)) [] ∧ ReadsAll s.heap (es.map (·.val)) (((kvs.map fun p => kD p.1).zip ds).map (·.2)) []
  | _, _, _, _, .nil, .nil, .nil, _ => ⟨.nil, .nil⟩
  | _, _, _, _, .cons h1 h2 t, .cons r q, .cons f g, e => by
    rw [List.all_cons, Bool.and_eq_true] at e
    obtain ⟨a, b⟩ := pairs_reads t q g e.2
    refine ⟨.cons (as := []) (bs := []) ?_ a, .cons (as := []) (bs := []) ?_ b⟩
    · have e1 := r.1
      rw [← e1] at h1
      exact key_reads h1
    · show Reads s.heap _ _ []
      rw [show (fun x : DictEntry => x.val) _ = _ from h2]
      exact scal_reads f r.2 e.1
theorem fz_reads (I : Inv X pins σ H s) {v : V} {d : D} {u : Value} (h : Fz X.K H v d) (r : RelV v u) (e : reprOk d = true) : ∃ as, Reads s.heap u d as ∧ (d.hasDict = true → sysModules ∉ as) := by
  unfold reprOk at e
  rw [Bool.or_eq_true] at e
  rcases e with e | e
  · obtain ⟨as, q⟩ := Dp.reads I d v u (fz_dp h e) r
    exact ⟨as, q, fun z => by rw [flat_noDict d e] at z; cases z⟩
  · split at e
    · cases h with
      | @dct a o0 kvs ds h0 t =>
        have h : Rd H a (.dK kvs) := .inr ⟨_, h0⟩
        cases r
        have ok := h.ok I.hok
        obtain ⟨_, hsys, vs, kv, o, es, ep, g1, g2, g3, _, ps, _⟩ := ok
        have e2 : ds.all scalD = true := by
          rw [List.all_eq_true] at e ⊢
          intro d hd
          have hl := t.length
          rw [List.length_map] at hl
          obtain ⟨i, hi, ei⟩ := List.mem_iff_getElem.mp hd
          have : ((kvs.map fun p => kD p.1).zip ds)[i]'(by simp; omega) = (kD (kvs[i]'(by omega)).1, d) := by simp [ei]
          have q := e _ (List.getElem_mem (l := (kvs.map fun p => kD p.1).zip ds) (n := i) (by simp; omega))
          rw [this] at q
          exact q
        obtain ⟨q1, q2⟩ := pairs_reads (s := s) ps kv t e2
        refine ⟨_, Reads.dict g1 g2.1 g3 q1 q2, fun _ hm => ?_⟩
        have hm' : sysModules = a := by simpa using hm
        rw [← hm'] at hsys
        simp at hsys
    · cases e
def oRepr : OC := o1 fun d P => (reprOk d = true ∧ d.showable = true ∧ d.depth ≤ 100 ∧ d.shown.length ≤ sizeLine) ∧ P (.fz (.str d.shown))
theorem call_repr_data (hgd : X.A.guards = some []) (hu : X.A.units + 101 < cLine) : CallR X (.builtin "repr") (fun xs H Q => ∃ v d, xs = [v] ∧ Fz X.K H v d ∧ reprOk d = true ∧ d.showable = true ∧ d.depth ≤ 100 ∧ d.shown.length ≤ sizeLine ∧ Q (.str d.shown) H) := by
  intro pins s σ H xs us Q I r h
  obtain ⟨v, d, rfl, f, e1, e2, e3, e4, q⟩ := h
  obtain ⟨u, rfl, ru⟩ := vals1 r
  have key : ∀ a, u = .ref a → wpAny (model X.prog X.w) X.A (call (.builtin "repr") [u]) (EP X pins σ Q) X.xe s := fun a ea => by
    obtain ⟨as, rd, hsm⟩ := fz_reads I f ru e1
    subst ea
    exact repr_of_reads' rd e2 hsm hgd (by omega) (fun _ _ z => z) (fun h' u' tk hk => ⟨.str d.shown, H, I.kept hk, ⟨_, rfl⟩, q⟩) e4
  cases f with
  | non => cases ru; exact PySem.P.repr_of_none ⟨.str (PyData.shown .none), H, I.tok _, ⟨s.toks, by simp only [PyData.shown]⟩, q⟩
  | bl b =>
    cases ru
    refine PySem.P.repr_of_bool ⟨.str (PyData.shown (.bool b)), H, I.tok _, ⟨s.toks, ?_⟩, q⟩
    simp only [PyData.shown]
  | int i =>
    obtain ⟨t, rfl⟩ := ru
    refine PySem.P.repr_of_int (by simpa [PyData.showable] using e2) ⟨.str (PyData.shown (.int i)), H, I.tok _, ⟨s.toks, ?_⟩, q⟩
    simp only [PyData.shown]
  | str x =>
    obtain ⟨t, rfl⟩ := ru
    refine PySem.P.repr_of_str ⟨.str (PyData.shown (.str x)), H, I.tok _, ⟨s.toks, ?_⟩, q⟩ (by simpa only [PyData.shown] using e4)
    simp only [PyData.shown]
  | lst h t => cases ru; exact key _ rfl
  | tup h t => cases ru; exact key _ rfl
  | dct h t => cases ru; exact key _ rfl
theorem cd_repr (hgd : X.A.guards = some []) (hu : X.A.units + 101 < cLine) : CaD X W (.builtin "repr") oRepr := cd_1 (call_repr_data hgd hu) fun F H v rx d P Q fh a hd o k =>
  ⟨v, d, rfl, a.read fh hd, o.1.1, o.1.2.1, o.1.2.2.1, o.1.2.2.2, k _ _ F H o.2 .same rvS⟩

/-! ### list(..) -/
theorem call_list_text : CallR X (.type "list") (fun xs H Q => ∃ z : Str, X.calm = true ∧ xs = [.str z] ∧ z.length ≤ sizeLine ∧ ∀ l, H l = none → Q (.ref l) (upd H l (.lst (z.cps.toList.map fun c => .str ⟨#[c]⟩)))) := by
  intro pins s σ H xs us Q I r h
  obtain ⟨z, hc, rfl, hz, q⟩ := h
  obtain ⟨u, rfl, t, rfl⟩ := vals1 r
  refine PySem.call_list_str (I.ok.hd hc) z t (hn := hz) fun h' tk acc' c' hk hS hacc => ?_
  have hl : z.cps.toList.length = acc'.toList.length := by
    have := hacc.1
    simp [Str.length] at this ⊢
    omega
  refine ⟨.ref s.heap.objs.size, upd H s.heap.objs.size _, I.laid (t' := tk) hk (Nat.le_refl _) ?_, rfl, q _ (I.hok.fresh (Nat.le_refl _))⟩
  refine ⟨by rw [List.length_map]; simpa [Str.length] using hz, acc'.toList, c', ?_, by simpa using hS⟩
  have rel : ∀ (cs : List Nat) (vs : List Value), cs.length = vs.length → (∀ (j : Nat) (v : Value), vs[j]? = some v → ∃ (c : Nat) (u : Tok), cs[j]? = some c ∧ v = Value.str ⟨#[c]⟩ u) → Vals (cs.map fun c => V.str ⟨#[c]⟩) vs := by
    intro cs
    induction cs with
    | nil => intro vs hl _; cases vs with
      | nil => exact .nil
      | cons _ _ => cases hl
    | cons c cs ih => intro vs hl h; cases vs with
      | nil => cases hl
      | cons v vs =>
        refine .cons ?_ (ih vs (by simpa using hl) fun j v' e => h (j + 1) v' (by simpa using e))
        obtain ⟨c', u, e1, e2⟩ := h 0 v rfl
        cases e1
        exact ⟨u, e2⟩
  refine rel _ _ hl fun j v e => ?_
  obtain ⟨c, u, e1, e2⟩ := hacc.2 j v (by simpa using e)
  exact ⟨c, u, by simpa using e1, e2⟩
def oList : OC := o1 fun d P => match d with
  | .list ds => P (.tmp ds)
  | .tuple ds => P (.tmp ds)
  | .str z => z.length ≤ sizeLine ∧ P (.tmp (signs z))
  | _ => False
theorem signs_fz {K : PySem.W.Frag} {F : Hp} : ∀ cs : List Nat, FzA K F (cs.map fun c => V.str ⟨#[c]⟩) (cs.map fun c => PyData.str ⟨#[c]⟩)
  | [] => .nil
  | c :: cs => .cons (.str _) (signs_fz cs)
theorem cd_list (hc : X.calm = true) : CaD X W (.type "list") oList := cd_1 (call_list_of.or call_list_text) fun F H v rx d P Q fh a hd o k => by
  split at o
  · rename_i ds
    obtain ⟨l, xs, e1, h1, f1⟩ := a.items fh hd
    exact .inl ⟨l, xs, by rw [e1], .inl (.of h1), fun q hq => k _ _ F _ o (.own hq) ⟨q, xs, rfl, hq, upd_same, fh.free hq, f1⟩⟩
  · rename_i ds
    obtain ⟨l, xs, e1, h1, f1⟩ := a.titems fh hd
    exact .inl ⟨l, xs, by rw [e1], .inr h1, fun q hq => k _ _ F _ o (.own hq) ⟨q, xs, rfl, hq, upd_same, fh.free hq, f1⟩⟩
  · rename_i z
    exact .inr ⟨z, hc, by rw [a.str hd], o.1, fun q hq => k _ _ F _ o.2 (.own hq) ⟨q, _, rfl, hq, upd_same, fh.free hq, signs_fz _⟩⟩
  · exact o.elim
end
end DL

namespace DL
open PySem PySem.Spec PyProof.Rows L2

/-! ### the script -/
section
variable {X : Cx} {W : Wd} {a b c e : Expr} {es : List Expr} {wa wb we : WE} {ws : WA} {pos p p2 : Pos}
def oLenS : OC := fun rs P => match rs with
  | [.scr ns] => P (.fz (.int ns.length))
  | _ => False
theorem cd_lenS : CaD X W (.builtin "len") oLenS := by
  refine ⟨_, call_len_seq, fun F H xs rs P Q fh ra o k => ?_⟩
  unfold oLenS at o
  split at o
  · rename_i ns
    obtain ⟨v, rfl, l, e, hs⟩ := ra1 ra
    subst e
    refine ⟨l, _, rfl, .inl (same_l fh hs), ?_⟩
    rw [List.length_map]
    exact k _ _ F H o .same rvI
  · exact o.elim
def oIxS : O2 := fun x y P => match x, y.rd with
  | .scr ns, some (.int i) => match atI ns i with
    | some z => P (.fz (.int z))
    | none => False
  | _, _ => False
theorem atI_map {ns : List Int} {i z : Int} (h : atI ns i = some z) : atI (ns.map V.int) i = some (.int z) := by
  unfold atI at h ⊢
  rw [List.length_map]
  cases q : ixN ns.length i with
  | none => rw [q] at h; cases h
  | some j =>
    rw [q] at h
    show (ns.map V.int)[j]? = _
    rw [List.getElem?_map, show ns[j]? = some z from h]
    rfl
theorem id_ixS : IxD X W oIxS := by
  refine ⟨_, ix_list, fun Hs F H x y rx ry P Q fh hx hy o k => ?_⟩
  unfold oIxS at o
  split at o
  · rename_i ns i ey
    obtain ⟨l, e, hs⟩ := hx
    split at o
    · rename_i z hz
      exact ⟨l, _, i, _, e, hy.int ey, same_l fh hs, atI_map hz, k _ _ F H o .same rvI⟩
    · exact o.elim
  · exact o.elim
def cutI (ds : List Int) (lo hi : Option Int) : List Int := (ds.drop (HT.sIx ds.length 0 lo)).take (HT.sIx ds.length ds.length hi - HT.sIx ds.length 0 lo)
def oCutS : OS := fun x lo hi P => match x with
  | .scr ns => P (.tmp ((cutI ns lo hi).map PyData.int))
  | _ => False
theorem sd_cutS : SlD X W oCutS := by
  refine ⟨_, sl_list, fun Hs F H x rx lo hi P Q fh hx o k => ?_⟩
  unfold oCutS at o
  split at o
  · rename_i ns
    obtain ⟨l, e, hs⟩ := hx
    refine ⟨l, _, e, same_l fh hs, fun q hq => ?_⟩
    refine k _ _ F _ o (.own hq) ⟨q, _, rfl, hq, upd_same, fh.free hq, ?_⟩
    unfold cutV cutI
    rw [List.length_map, ← List.map_drop, ← List.map_take]
    exact ints_fz _
  · exact o.elim
end

/-! ### the law's generator: a list of three whole numbers -/
def Gk : List V → Nat → Prop := fun gs n => ∃ a b c : Int, gs = [.int a, .int b, .int c] ∧ (0 ≤ a ∧ a < 2 ^ 2100) ∧ (0 ≤ b ∧ b < 2 ^ 31) ∧ (0 ≤ c ∧ c ≤ n)
def gOk (k : Int) (z : Int) (n : Nat) : Prop := 0 ≤ z ∧ (k = 0 → z < 2 ^ 2100) ∧ (k = 1 → z < 2 ^ 31) ∧ (k = 2 → z ≤ n)
def wGix (i : Nat) (k : Int) : WE := fun ρ n Q => match ρ[i]? with
  | some (some .gen) => (0 ≤ k ∧ k ≤ 2) ∧ ∀ z, gOk k z n → Q (.fz (.int z)) n
  | _ => False
def wGset (i : Nat) (k : Int) (we : WE) : WS := fun D ρ n => match ρ[i]? with
  | some (some .gen) => we ρ n fun r n' => match r with
    | .fz (.int z) => (0 ≤ k ∧ k ≤ 2) ∧ (0 ≤ z ∧ (k = 0 → z < 2 ^ 2100) ∧ (k = 1 → z < 2 ^ 31)) ∧ D.nx ρ (if k = 2 then max n' z.toNat else n')
    | _ => False
  | _ => False
section
variable {X : Cx} {g : Option Addr} {B F0 : Hp} {a b c e : Expr} {we : WE} {pos p p2 : Pos} {w : WS} {sts : List Stmt}
theorem pd_gix {i : Nat} {k : Int} {o : Expr} {j : Nat} (ho : PE X o (tVar i)) : PD X ⟨Gk, g, B, F0⟩ (.Subscript o (.Constant (.int k) j p) pos) (wGix i k) := imE (pe_ix ix_list ho pe_int (fun _ _ => rfl)) fun σ H Q ⟨F, ρ, n, P, m, h, kk⟩ => by
  unfold wGix at h
  split at h
  · rename_i hr
    obtain ⟨⟨k0, k2⟩, h⟩ := h
    obtain ⟨v, hv, q, ev, hg⟩ := m.sl i .gen hr
    subst ev
    obtain ⟨_, gs, hq, x, y, z, rfl, gx, gy, gz⟩ := m.gn q hg
    refine ⟨_, hv, q, [.int x, .int y, .int z], k, ?_⟩
    have c : k = 0 ∨ k = 1 ∨ k = 2 := by omega
    rcases c with rfl | rfl | rfl
    · exact ⟨.int x, rfl, rfl, .of hq, rfl, kk _ n _ F H (h x ⟨gx.1, fun _ => gx.2, fun z => by omega, fun z => by omega⟩) .refl m rvI⟩
    · exact ⟨.int y, rfl, rfl, .of hq, rfl, kk _ n _ F H (h y ⟨gy.1, fun z => by omega, fun _ => gy.2, fun z => by omega⟩) .refl m rvI⟩
    · exact ⟨.int z, rfl, rfl, .of hq, rfl, kk _ n _ F H (h z ⟨gz.1, fun z => by omega, fun z => by omega, fun _ => gz.2⟩) .refl m rvI⟩
  · exact h.elim
theorem mo_gen {K : PySem.W.Frag} {F H : Hp} {ρ : Rho} {n n' : Nat} {σ : L2.St} {q : Addr} {xs gs : List V} (m : Mo K ⟨Gk, g, B, F0⟩ F ρ n σ H) (hg : g = some q) (hq : H q = some (.lst xs)) (hG : Gk gs n') : Mo K ⟨Gk, g, B, F0⟩ F ρ n' σ (upd H q (.lst gs)) := by
  have fq : F q = none := (m.gn q hg).1
  refine ⟨m.ln, m.f0, fun a u e => ?_, fun a u e ng => ?_, fun a e => ?_, m.fn, fun z hz => ⟨(m.gn z hz).1, gs, ?_, hG⟩, fun i x hi => ?_, m.dj⟩
  · rw [upd_ne (ne_of_none e fq)]; exact m.fh a u e
  · rw [upd_ne (fun z => ng (by rw [z]; exact hg))]; exact m.bh a u e ng
  · by_cases c : a = q
    · subst c; rw [upd_same]; exact fun z => nomatch z
    · rw [upd_ne c]; exact m.bs a e
  · have : z = q := Option.some.inj (hz.symm.trans hg)
    subst this
    exact upd_same
  · obtain ⟨v, hv, s⟩ := m.sl i x hi
    refine ⟨v, hv, ?_⟩
    cases x with
    | fz d => exact s
    | ol ds =>
      obtain ⟨p, vs, e, hp, r⟩ := s
      exact ⟨p, vs, e, by rw [upd_ne (fun z : p = q => r.2.2.1 (by rw [z]; exact hg))]; exact hp, r⟩
    | gen => exact s
    | scr ns => exact s
theorem pds_gset {i : Nat} {k : Int} {o : Expr} {j : Nat} (ho : PE X o (tVar i)) (he : PD X ⟨Gk, g, B, F0⟩ e we)
    (h : ∀ {te : TE}, PE X e te → PS X (.Assign [.Subscript o (.Constant (.int k) j p) p2] e pos) (tAsg te (gSub (tVar i) (tC (.int k)) rSetL))) : PDS X ⟨Gk, g, B, F0⟩ (.Assign [.Subscript o (.Constant (.int k) j p) p2] e pos) (wGset i k we) := imS (h he) fun σ H D ⟨F, ρ, n, DD, m, q, kk, _⟩ => by
  unfold wGset at q
  split at q
  · rename_i hr
    refine ⟨F, ρ, n, _, m, q, fun r n' v F' H' q' x m' rv => ?_⟩
    split at q'
    · rename_i z
      obtain ⟨⟨k0, k2⟩, ⟨z0, z1, z2⟩, q'⟩ := q'
      obtain ⟨u, hu, a, eu, hg⟩ := m'.sl i .gen hr
      subst eu
      obtain ⟨_, gs, ha, x0, x1, x2, rfl, g0, g1, g2⟩ := m'.gn a hg
      have ev := rv.int (i := z) rfl
      subst ev
      refine ⟨_, hu, a, [.int x0, .int x1, .int x2], k, k.toNat, rfl, rfl, ha, ?_, ?_⟩
      · have c : k = 0 ∨ k = 1 ∨ k = 2 := by omega
        rcases c with rfl | rfl | rfl <;> rfl
      · have c : k = 0 ∨ k = 1 ∨ k = 2 := by omega
        rcases c with rfl | rfl | rfl
        · refine kk F' ρ _ σ _ q' x.ff (mo_gen m' hg ha ⟨z, x1, x2, rfl, ⟨z0, z1 rfl⟩, g1, g2⟩)
        · refine kk F' ρ _ σ _ q' x.ff (mo_gen m' hg ha ⟨x0, z, x2, rfl, g0, ⟨z0, z2 rfl⟩, g2⟩)
        · refine kk F' ρ _ σ _ q' x.ff (mo_gen m' hg ha ⟨x0, x1, z, rfl, g0, g1, ⟨z0, ?_⟩⟩)
          rw [if_pos rfl]
          omega
    · exact q'.elim
  · exact q.elim
/-- a list of ours becomes the generator for a block -/
def unGen (ρ : Rho) : Rho := ρ.map fun x => match x with
  | some .gen => none
  | x => x
def wGen (i : Nat) (w : WS) : WS := fun D ρ n => ∃ (ns : List Int) (n0 : Nat), ρ[i]? = some (some (.ol (ns.map PyData.int))) ∧ Gk (ns.map V.int) n0 ∧ (∀ j : Nat, ρ[j]? ≠ some (some EV.gen)) ∧
  w ⟨fun ρ' n' => D.nx (unGen ρ') n, fun r n' => r ≠ .gen ∧ D.rt r n, fun ρ' n' => D.bk (unGen ρ') n, fun ρ' n' => D.ct (unGen ρ') n⟩ (ρ.set i (some .gen)) n0
theorem unGen_get {ρ : Rho} {j : Nat} {x : EV} (e : (unGen ρ)[j]? = some (some x)) : ρ[j]? = some (some x) ∧ x ≠ .gen := by
  unfold unGen at e
  rw [List.getElem?_map] at e
  cases c : ρ[j]? with
  | none => rw [c] at e; cases e
  | some y =>
    rw [c] at e
    cases y with
    | none => cases e
    | some y => cases y <;> first | (cases e; exact ⟨rfl, fun z => nomatch z⟩) | cases e
theorem unGen_mo {K : PySem.W.Frag} {F' H' : Hp} {ρ' : Rho} {n n' : Nat} {σ' : L2.St} {p : Addr} (bp : B p = none) (m' : Mo K ⟨Gk, some p, B, F0⟩ F' ρ' n' σ' H') : Mo K ⟨Gk, none, B, F0⟩ F' (unGen ρ') n σ' H' := by
  refine ⟨by unfold unGen; rw [List.length_map]; exact m'.ln, m'.f0, m'.fh, fun a o e _ => m'.bh a o e fun z => ?_, m'.bs, m'.fn, (fun z hz => nomatch hz), fun j x hx => ?_, fun j k dj dk z h1 h2 => m'.dj j k dj dk z (unGen_get h1).1 (unGen_get h2).1⟩
  · have e2 : p = a := by injection z
    subst e2
    have e' : B p = some o := e
    rw [bp] at e'
    cases e'
  · obtain ⟨y, ng⟩ := unGen_get hx
    obtain ⟨u, hu, s⟩ := m'.sl j x y
    refine ⟨u, hu, ?_⟩
    cases x with
    | fz d => exact s
    | ol ds =>
      obtain ⟨z, ws, e, hz, f, b, _, f2⟩ := s
      exact ⟨z, ws, e, hz, f, b, (fun c => nomatch c), f2⟩
    | gen => exact absurd rfl ng
    | scr ns => exact s
theorem pdss_gen (i : Nat) (h : ∀ p, PDSs X ⟨Gk, some p, B, F0⟩ sts w) : PDSs X ⟨Gk, none, B, F0⟩ sts (wGen i w) := by
  refine ⟨fun pins s σ H D I ⟨F, ρ, n, DD, m, q, k1, k2, k3, k4⟩ => ?_⟩
  obtain ⟨ns, n0, hr, hG, hno, q⟩ := q
  obtain ⟨v, hv, p, vs, ev, hp, fp, bp, _, fz⟩ := m.sl i (.ol (ns.map PyData.int)) hr
  subst ev
  have evs := fz_ints _ _ fz
  subst evs
  refine (h p).run pins s σ H D I ⟨F, ρ.set i (some .gen), n0, _, ?_, q, ?_, ?_, ?_, ?_⟩
  · refine ⟨by rw [List.length_set]; exact m.ln, m.f0, m.fh, fun a o e _ => m.bh a o e (fun z => nomatch z), m.bs, m.fn, fun z hz => ?_, fun j x hx => ?_, fun j k dj dk z h1 h2 h3 h4 => ?_⟩
    · cases hz
      exact ⟨fp, _, hp, hG⟩
    · rcases set_get hx with ⟨hj, hl, y⟩ | ⟨hj, y⟩
      · cases y
        subst hj
        exact ⟨_, hv, p, rfl, rfl⟩
      · obtain ⟨u, hu, s⟩ := m.sl j x y
        refine ⟨u, hu, ?_⟩
        cases x with
        | fz d => exact s
        | ol ds =>
          obtain ⟨z, ws, e, hz, f, b, _, f2⟩ := s
          refine ⟨z, ws, e, hz, f, b, fun c => ?_, f2⟩
          have e2 : p = z := by injection c
          subst e2; subst e
          exact hj (m.dj j i ds _ p y hr hu hv)
        | gen => exact absurd y (hno j)
        | scr ns => exact s
    · rcases set_get h1 with ⟨_, _, y⟩ | ⟨_, y1⟩
      · cases y
      · rcases set_get h2 with ⟨_, _, y⟩ | ⟨_, y2⟩
        · cases y
        · exact m.dj j k dj dk z y1 y2 h3 h4
  · exact fun F' ρ' n' σ' H' z s m' => k1 F' _ n σ' H' z s (unGen_mo bp m')
  · exact fun F' ρ' n' σ' H' z s m' => k2 F' _ n σ' H' z s (unGen_mo bp m')
  · exact fun F' ρ' n' σ' H' z s m' => k3 F' _ n σ' H' z s (unGen_mo bp m')
  · intro r n' v' F' ρ' σ' H' z s m' rv
    refine k4 r n v' F' _ σ' H' z.2 s (unGen_mo bp m') ?_
    cases r with
    | fz d => exact rv
    | tmp ds => exact rv
    | bor ds =>
      obtain ⟨y, ws, e, hz, f, b, _, f2⟩ := rv
      exact ⟨y, ws, e, hz, f, b, (fun c => nomatch c), f2⟩
    | gen => exact absurd rfl z.1
    | scr ns => exact rv
end
/-! the outermost def: no generator yet -/
def liftSp0 (K : PySem.W.Frag) (G : List V → Nat → Prop) (c : Ct) : Sp := fun vs H Q _ => ∃ F n rs P, Mo K ⟨G, none, H, F⟩ F [] n [] H ∧ RA K ⟨G, none, H, F⟩ F H vs rs ∧ rs.all RV.arg = true ∧ c rs n P ∧
  ∀ r n' v F' H', P r n' → Mo K ⟨G, none, H, F⟩ F' [] n' [] H' → Rv K ⟨G, none, H, F⟩ H F' H' v r → Q v H'
section
variable {P : Program} {w : World} {K : PySem.W.Frag} {mg : Str → Option Value} {base : Heap}
theorem fn_ok0 {x qual : Str} {st : Stmt} {f : Addr} {fd : FuncData} {N ps : List Str} {k : Nat} {G : List V → Nat → Prop} {c : Ct} {wb : WS} (Fn : Fun K x qual st f fd) (S : FnScope N ps (defScope st)) (hl : ∀ rs n Q, c rs n Q → rs.length = ps.length)
    (body : ∀ (cdv : Value) (A : Around) (outer : List Env) (s : Shared) (H : Hp) (E : XK) (B F0 : Hp), A.guards = some [] → Room k (A.deeper (envOfC qual (defScope st) s.heap.objs.size f cdv)) →
      PDSs (cxOf CX0 P w K mg base N qual (defScope st) f cdv A outer s H E).nox ⟨G, none, B, F0⟩ (defBody st) wb)
    (sat : ∀ rs n Q, c rs n Q → rs.all RV.arg = true → wb { nx := fun _ n' => Q (.fz .none) n', rt := Q } (rho0 N rs) n) : FnG P w K mg base CX0 (k + 1) f fd ps (liftSp0 K G c) := by
  obtain ⟨oc, od, kV, doc, pm, an, cdv, ct, osl, rfl, lk, hcd⟩ := Fn.ex
  refine fng_of lk hcd S (fun vs H Q E ⟨F, n, rs, P, m, ra, ha, h, _⟩ => by rw [ra.length]; exact hl _ _ _ h) fun A outer s H vs Q E hgd hr ⟨F, n, rs, P', m, ra, ha, h, kk⟩ => ?_
  refine ⟨_, (body cdv A outer s H E H F hgd hr).nox, ?_⟩
  refine ⟨F, _, n, _, mo_start m ra ha, sat rs n P' h ha, fun F' ρ' n' σ' H' q _ m' => ?_, fun _ _ _ _ _ q => q.elim, fun _ _ _ _ _ q => q.elim, fun r n' v F' ρ' σ' H' q _ m' rv => ?_⟩
  · exact kk _ n' _ F' H' q ⟨Nat.le_refl _, m'.f0, m'.fh, m'.bh, m'.bs, m'.fn, m'.gn, fun i e h => by simp at h, fun i j di dj p h => by simp at h⟩ (show Fz K F' V.non .none from .non)
  · exact kk r n' v F' H' q ⟨Nat.le_refl _, m'.f0, m'.fh, m'.bh, m'.bs, m'.fn, m'.gn, fun i e h => by simp at h, fun i j di dj p h => by simp at h⟩ rv
end
end DL

namespace DL
open PySem PySem.Spec PyProof.Rows L2

/-! ### comprehensions whose turns are known -/
section
variable {α : Type} {ρ : Rho} {wg : WG} {wt : WT} {we : WE} {n : Nat} {Q : List D → Nat → Prop}
theorem compL_map (e : α → D) (f : α → Option D) : ∀ (xs : List α) (Q : List D → Nat → Prop), (∀ x ∈ xs, ∀ (C : RV → Nat → Prop) (C0 : Nat → Prop), (match f x with | some y => C (.fz y) n | none => C0 n) →
    wg (e x) ρ fun ρ2 => wt ρ2 n fun b n1 => if b = true then we ρ2 n1 C else C0 n1) → Q (xs.filterMap f) n → compL ρ wg wt we (xs.map e) n Q
  | [], Q, _, q => q
  | x :: xs, Q, h, q => by
    show wg (e x) ρ _
    refine h x (List.mem_cons_self ..) _ _ ?_
    rw [List.filterMap_cons] at q
    cases hf : f x with
    | none =>
      rw [hf] at q
      exact compL_map e f xs Q (fun y hy => h y (List.mem_cons_of_mem _ hy)) q
    | some y =>
      rw [hf] at q
      refine ⟨rfl, compL_map e f xs _ (fun y hy => h y (List.mem_cons_of_mem _ hy)) ?_⟩
      exact q
theorem compL_each (e : α → D) (f : α → D) (xs : List α) (h : ∀ x ∈ xs, ∀ C : RV → Nat → Prop, C (.fz (f x)) n → wg (e x) ρ fun ρ2 => we ρ2 n C) (q : Q (xs.map f) n) : compL ρ wg wYes we (xs.map e) n Q := by
  refine compL_map e (fun x => some (f x)) xs Q (fun x hx C C0 c => ?_) ?_
  · have := h x hx C c
    simpa [wYes] using this
  · rw [show xs.filterMap (fun x => some (f x)) = xs.map f by rw [List.filterMap_eq_map']]
    exact q
theorem filterMap_if (e : α → D) (p : α → Bool) : ∀ xs : List α, xs.filterMap (fun x => if p x = true then some (e x) else none) = (xs.filter p).map e
  | [] => rfl
  | x :: xs => by
    rw [List.filterMap_cons, List.filter_cons]
    cases hp : p x with
    | true => simp [hp, filterMap_if e p xs]
    | false => simp [hp, filterMap_if e p xs]
theorem compL_filter (e : α → D) (p : α → Bool) (xs : List α) (h : ∀ x ∈ xs, ∀ (C : RV → Nat → Prop) (C0 : Nat → Prop), (if p x = true then C (.fz (e x)) n else C0 n) → wg (e x) ρ fun ρ2 => wt ρ2 n fun b n1 => if b = true then we ρ2 n1 C else C0 n1)
    (q : Q ((xs.filter p).map e) n) : compL ρ wg wt we (xs.map e) n Q := by
  refine compL_map e (fun x => if p x = true then some (e x) else none) xs Q (fun x hx C C0 c => h x hx C C0 ?_) ?_
  · cases hp : p x with
    | true => simpa [hp] using c
    | false => simpa [hp] using c
  · rw [filterMap_if]
    exact q
end
theorem compL_filterD {ρ : Rho} {wg : WG} {wt : WT} {we : WE} {n : Nat} {Q : List D → Nat → Prop} (p : D → Bool) (ds : List D) (h : ∀ x ∈ ds, ∀ (C : RV → Nat → Prop) (C0 : Nat → Prop), (if p x = true then C (.fz x) n else C0 n) → wg x ρ fun ρ2 => wt ρ2 n fun b n1 => if b = true then we ρ2 n1 C else C0 n1)
    (q : Q (ds.filter p) n) : compL ρ wg wt we ds n Q := by
  have := compL_filter (Q := Q) (fun d : D => d) p ds h (by rw [List.map_id'']; exact q; exact fun _ => rfl)
  rw [List.map_id'' (fun _ => rfl)] at this
  exact this
theorem compL_eachD {ρ : Rho} {wg : WG} {we : WE} {n : Nat} {Q : List D → Nat → Prop} (f : D → D) (ds : List D) (h : ∀ x ∈ ds, ∀ C : RV → Nat → Prop, C (.fz (f x)) n → wg x ρ fun ρ2 => we ρ2 n C) (q : Q (ds.map f) n) : compL ρ wg wYes we ds n Q := by
  have := compL_each (Q := Q) (fun d : D => d) f ds h q
  rw [List.map_id'' (fun _ => rfl)] at this
  exact this
/-! ### one statement at a time -/
section
variable {D : DE} {ρ : Rho} {n : Nat} {we : WE} {wt : WT} {w1 w1' w2 : WS} {i : Nat}
theorem seq_set (h : ∀ C : RV → Nat → Prop, (∀ r n' ev, r.ev = some ev → w2 D (ρ.set i (some ev)) n' → C r n') → we ρ n C) : wSeq (wSet i we) w2 D ρ n := by
  refine h _ fun r n' ev e q => ?_
  dsimp only
  rw [e]
  exact q
theorem seq_if (h : ∀ C : Bool → Nat → Prop, (∀ b n', (if b = true then w1 { D with nx := w2 D } ρ n' else w1' { D with nx := w2 D } ρ n') → C b n') → wt ρ n C) : wSeq (wIf wt w1 w1') w2 D ρ n := h _ fun b n' q => q
theorem seq_frz (h : wSeq w1 w2 D (frz i ρ) n) : wFrz i (wSeq w1 w2) D ρ n := h
theorem cons_go {wa : WE} {wr : WA} {Q : List RV → Nat → Prop} (h : ∀ C : RV → Nat → Prop, (∀ x n1, wr ρ n1 (fun xs n2 => Q (x.fr :: xs) n2) → C x n1) → wa ρ n C) : wCons wa wr ρ n Q := h _ fun _ _ q => q
end
theorem forL_inv {wg : WG} {w : WS} {DD : DE} : ∀ (items : List D) (I : Nat → Rho → Nat → Prop) {ρ : Rho} {n : Nat}, (∀ (j : Nat) (x : D) (ρ : Rho) (n : Nat), items[j]? = some x → I j ρ n → wg x ρ fun ρ' => ∀ C : Rho → Nat → Prop, (∀ ρ'' n'', I (j + 1) ρ'' n'' → C ρ'' n'') → w { DD with nx := C, ct := C, bk := DD.nx } ρ' n) →
    (∀ x ρ (P P' : Rho → Prop), (∀ r, P r → P' r) → wg x ρ P → wg x ρ P') → I 0 ρ n → (∀ ρ' n', I items.length ρ' n' → DD.nx ρ' n') → forL wg w DD items ρ n
  | [], I, ρ, n, _, _, h0, he => he ρ n h0
  | x :: items, I, ρ, n, h, mono, h0, he => by
    refine mono _ _ _ _ (fun ρ' q => q _ fun ρ'' n'' hI => ?_) (h 0 x ρ n rfl h0)
    exact forL_inv items (fun j => I (j + 1)) (fun j y ρ n e hI => h (j + 1) y ρ n (by simpa using e) hI) mono hI he
theorem wgN_mono {i : Nat} (x : D) (ρ : Rho) (P P' : Rho → Prop) (h : ∀ r, P r → P' r) (q : wgN i x ρ P) : wgN i x ρ P' := h _ q
theorem cm_l {i j : Int} (h1 : -(2 ^ 64) < i) (h2 : i < 2 ^ 64) : CM i j := .inl (.inl ⟨h1, h2⟩)
theorem cm_r {i j : Int} (h1 : -(2 ^ 64) < j) (h2 : j < 2 ^ 64) : CM i j := .inl (.inr ⟨h1, h2⟩)
theorem skip_go {D : DE} {ρ : Rho} {n : Nat} (h : D.nx ρ n) : wSkip D ρ n := h
theorem cp_of {i j : Int} (h0 : 0 ≤ j) (h : (Builtin.Int.intBits i : Int) * j ≤ 2 ^ 27) : CP i j := ⟨h0, h⟩
theorem compL_eachR {ρ : Rho} {wg : WG} {we : WE} {n : Nat} (f : D → D) : ∀ (ds : List D) {Q : List D → Nat → Prop}, (∀ x ∈ ds, ∀ C : RV → Nat → Prop, (∀ r : RV, r.fr = .fz (f x) → C r n) → wg x ρ fun ρ2 => we ρ2 n C) → Q (ds.map f) n → compL ρ wg wYes we ds n Q
  | [], Q, _, q => q
  | x :: xs, Q, h, q => by
    show wg x ρ _
    refine h x (List.mem_cons_self ..) _ fun r hr => ?_
    rw [hr]
    exact ⟨rfl, compL_eachR f xs (fun y hy => h y (List.mem_cons_of_mem _ hy)) q⟩
/-- turns that draw -/
theorem compL_any {ρ : Rho} {wg : WG} {we : WE} (Good : D → Prop) (b N : Nat) : ∀ (xs : List D) (n : Nat) {Q : List D → Nat → Prop}, n + b * xs.length ≤ N →
    (∀ x ∈ xs, ∀ n1, n1 + b ≤ N → ∀ C : RV → Nat → Prop, (∀ y n2, Good y → n1 ≤ n2 → n2 ≤ n1 + b → C (.fz y) n2) → wg x ρ fun ρ2 => we ρ2 n1 C) →
    (∀ ds n2, ds.length = xs.length → (∀ d ∈ ds, Good d) → n ≤ n2 → n2 ≤ N → Q ds n2) → compL ρ wg wYes we xs n Q
  | [], n, Q, hN, _, q => q [] n rfl (fun d h => nomatch h) (Nat.le_refl _) (by simpa using hN)
  | x :: xs, n, Q, hN, h, q => by
    rw [List.length_cons, Nat.mul_succ] at hN
    show wg x ρ _
    refine h x (List.mem_cons_self ..) n (by omega) _ fun y n2 hy h1 h2 => ⟨rfl, ?_⟩
    refine compL_any Good b N xs n2 (by omega) (fun z hz => h z (List.mem_cons_of_mem _ hz)) fun ds n3 e1 e2 e3 e4 => ?_
    refine q (y :: ds) n3 (by rw [List.length_cons, List.length_cons, e1]) (fun d hd => ?_) (by omega) e4
    rcases List.mem_cons.mp hd with rfl | hd
    · exact hy
    · exact e2 d hd
theorem seq_for {D : DE} {ρ : Rho} {n : Nat} {wi : WI} {wg : WG} {w w2 : WS} (h : ∀ C : List DL.D → Nat → Prop, (∀ items n', forL wg w { D with nx := w2 D } items ρ n' → C items n') → wi ρ n C) : wSeq (wFor wi wg w) w2 D ρ n := h _ fun _ _ q => q
end DL

namespace DL
open PySem PySem.Spec PyProof.Rows L2

/-! ### dicts: each is locked for good where it is made -/
section
variable {X : Cx} {W : Wd} {a b c e : Expr} {es : List Expr} {wa wb we : WE} {ws : WA} {pos p p2 : Pos}
theorem pe_lk {t : TE} (h : PE X e t) : PE X e (fun σ H Q => t σ H fun v H' => ∃ p u, v = .ref p ∧ H' p = some u ∧ Mut (some u) ∧ ∀ od, Q (.ref p) (upd H' p (.frz od u))) := by
  refine ⟨fun pins s σ H Q I h0 => ?_⟩
  refine thn (h.run pins s σ H _ I h0) fun v s1 ⟨x, H1, I1, r, p, u, ex, hp, mu, q⟩ => ?_
  obtain ⟨od, I2⟩ := I1.lock hp mu
  subst ex
  exact ⟨.ref p, _, I2, r, q od⟩
theorem call_lk {f : Value} {r : List V → Hp → VK → Prop} (h : CallR X f r) : CallR X f (fun xs H Q => r xs H fun v H' => ∃ p u, v = .ref p ∧ H' p = some u ∧ Mut (some u) ∧ ∀ od, Q (.ref p) (upd H' p (.frz od u))) := by
  intro pins s σ H xs us Q I rv h0
  refine thn (h pins s σ H xs us _ I rv h0) fun v s1 ⟨x, H1, I1, r, p, u, ex, hp, mu, q⟩ => ?_
  obtain ⟨od, I2⟩ := I1.lock hp mu
  subst ex
  exact ⟨.ref p, _, I2, r, q od⟩
theorem upd_upd {H : Hp} {p : Addr} {a b : HO} : upd (upd H p a) p b = upd H p b := by
  funext q
  by_cases c : q = p
  · subst c; rw [upd_same, upd_same]
  · rw [upd_ne c, upd_ne c, upd_ne c]
theorem pd_dict0 : PD X W (.Dict [] [] pos) (wC (.dict [])) := imE (pe_lk pe_dnewK) fun σ H Q ⟨F, ρ, n, P, m, w, k⟩ => by
  intro p hp
  refine ⟨p, .dK [], rfl, upd_same, trivial, fun od => ?_⟩
  rw [upd_upd]
  exact fin k .refl m w (.frz hp) (show Fz X.K _ _ _ from .dct (kvs := []) (ds := []) upd_same .nil)
theorem Mo.poke {K : PySem.W.Frag} {F F1 H H1 : Hp} {ρ : Rho} {n n1 : Nat} {σ : L2.St} {p : Addr} {o : HO} (m : Mo K W F ρ n σ H) (x : Ext W F H F1 H1) (m1 : Mo K W F1 ρ n1 σ H1) (hp : H p = none) (f1 : F1 p = none) :
    Ext W F H (upd F1 p o) (upd H1 p o) ∧ Mo K W (upd F1 p o) ρ n1 σ (upd H1 p o) := by
  have x1 : Ext W F H F1 (upd H1 p o) := x.poke hp
  have m2 : Mo K W F1 ρ n1 σ (upd H1 p o) := by
    refine m.ext x1 (fun a u e => ?_) (fun q hq => ?_)
    · rw [upd_ne (ne_of_none e f1)]; exact m1.fh a u e
    · obtain ⟨a, gs, e, g⟩ := m1.gn q hq
      exact ⟨a, gs, by rw [upd_ne (fun z : q = p => m.nog hp (by rw [← z]; exact hq))]; exact e, g⟩
  exact ⟨x1.frz hp f1, m2.frz upd_same (m.nob hp) (m.nog hp) f1 fun i ds hi z => m.slotIn hp i ds hi z⟩
def wDict1 (z : Str) (we : WE) : WE := fun ρ n Q => we ρ n fun r n1 => r.isFz = true ∧ Q (.fz (.dict [(.str z, r.un)])) n1
theorem pd_dict1 {z : Str} (he : PD X W e we) (hk : PE X a (tC (.str z))) : PD X W (.Dict [some a] [e] pos) (wDict1 z we) := by
  refine imE (pe_lk (pe_disp (keys := [some a]) (values := [e]) (pps_cons hk he pps_nil) rfl rfl (by simp) (by simp))) fun σ H Q ⟨F, ρ, n, P, m, w, k⟩ => ?_
  intro p hp
  refine ⟨F, ρ, n, _, m.own hp, w, fun r n1 v F1 H1 ⟨c, q⟩ x1 m1 r1 => ?_⟩
  have xx : Ext W F H F1 H1 := (Ext.own hp).trans x1
  have gp := m.nog hp
  have hp1 : H1 p = some (.dK []) := x1.hh p _ upd_same gp
  have f1 : F1 p = none := x1.nw p (by rw [upd_same]; exact fun z => nomatch z) (m.nof hp)
  refine ⟨hp1, [(.inr z, v)], rfl, by simp, p, _, rfl, upd_same, trivial, fun od => ?_⟩
  rw [upd_upd]
  obtain ⟨x2, m2⟩ := m.poke (o := .frz od (.dK (mergeK [] [(.inr z, v)]))) xx m1 hp f1
  refine k _ n1 _ _ _ q x2 m2 (show Fz X.K _ _ _ from ?_)
  have fu : Fz X.K F1 v r.un := by
    cases r with
    | fz d => exact r1
    | _ => cases c
  exact .dct (kvs := [(.inr z, v)]) (ds := [r.un]) upd_same (.one (fu.mono fun a u e => by rw [upd_ne (ne_of_none e f1)]; exact e))

/-! dict(..) of at most one pair -/
def keyD : D → Option Key
  | .int i => some (.inl i)
  | .str z => some (.inr z)
  | _ => none
def oDictOf : OC := o1 fun d P => match d with
  | .list [] => P (.fz (.dict []))
  | .list [.tuple [k, v]] => (keyD k).isSome = true ∧ P (.fz (.dict [(k, v)]))
  | _ => False
theorem fz_key {K : PySem.W.Frag} {F : Hp} {v : V} {d : D} {k : Key} (h : Fz K F v d) (e : keyD d = some k) : v = kV k ∧ d = kD k := by
  cases h <;> cases e <;> exact ⟨rfl, rfl⟩
theorem cd_dict (hc : X.calm = true) : CaD X W (.type "dict") oDictOf := cd_1 (call_lk (call_dictP hc)) fun F H v rx d P Q fh a hd o k => by
  split at o
  · obtain ⟨l, xs, e1, h1, f1⟩ := a.items fh hd
    cases f1
    refine ⟨l, [], [], by rw [e1], .of h1, .nil, fun p hp => ⟨p, _, rfl, upd_same, trivial, fun od => ?_⟩⟩
    rw [upd_upd]
    exact k _ _ _ _ o (.frz hp) (show Fz X.K _ _ _ from .dct (kvs := []) (ds := []) upd_same .nil)
  · rename_i dk dv
    obtain ⟨l, xs, e1, h1, f1⟩ := a.items fh hd
    obtain ⟨o1, o2⟩ := o
    cases hk : keyD dk with
    | none => rw [hk] at o1; cases o1
    | some kk =>
      cases f1 with
      | cons g1 g2 =>
        cases g2
        cases g1 with
        | @tup t ts _ g3 g4 =>
          cases g4 with
          | @cons kv _ _ _ g5 g6 =>
            cases g6 with
            | @cons vv _ _ _ g7 g8 =>
              cases g8
              obtain ⟨ek, ed⟩ := fz_key g5 hk
              subst ek ed
              refine ⟨l, [t], [(kk, vv)], by rw [e1], .of h1, .cons (same_t fh g3) .nil, fun p hp => ⟨p, _, rfl, upd_same, trivial, fun od => ?_⟩⟩
              rw [upd_upd]
              exact k _ _ _ _ o2 (.frz hp) (show Fz X.K _ _ _ from .dct (kvs := [(kk, vv)]) (ds := [dv]) upd_same (.one (g7.mono fun a u e => by rw [upd_ne (ne_of_none e (fh.free hp))]; exact e)))
  · exact o.elim
/-! d[k] -/
def getD (kvs : List (D × D)) (k : Key) : Option D := (kvs.find? fun p => decide (keyD p.1 = some k)).map (·.2)
def wDget (wa wb : WE) : WE := fun ρ n Q => wa ρ n fun x n1 => wb ρ n1 fun y n2 => match x, y with
  | .fz (.dict kvs), .fz yd => match (keyD yd).bind (getD kvs) with
    | some d => Q (.fz d) n2
    | none => False
  | _, _ => False
theorem keyD_kD (k : Key) : keyD (kD k) = some k := by cases k <;> rfl
theorem getD_fz {K : PySem.W.Frag} {F : Hp} {k : Key} : ∀ {kvs : List (Key × V)} {ds : List D} {d : D}, FzA K F (kvs.map (·.2)) ds → getD ((kvs.map fun p => kD p.1).zip ds) k = some d → ∃ v, valV kvs k = some v ∧ Fz K F v d
  | [], _, d, _, e => by simp [getD] at e
  | (kk, v) :: kvs, _, d, .cons (ds := ds) g t, e => by
    unfold getD at e
    simp only [List.map_cons, List.zip_cons_cons, List.find?_cons, keyD_kD] at e
    unfold valV
    rw [List.find?_cons]
    by_cases c : kk = k
    · have c' : decide (some kk = some k) = true := by simp [c]
      rw [c'] at e
      simp at e
      subst e
      simp [c]
      exact g
    · have c' : decide (some kk = some k) = false := by simp [c]
      rw [c'] at e
      simp only [decide_eq_false c]
      exact getD_fz (kvs := kvs) t e
theorem pd_dget (hu : X.A.units + 1 < cLine) (ha : PD X W a wa) (hb : PD X W b wb) (hs : NoSl b) : PD X W (.Subscript a b pos) (wDget wa wb) := by
  refine imE (pe_dget hu ha hb hs) fun σ H Q ⟨F, ρ, n, P, m, w, k⟩ => ?_
  refine two (C := fun x y n2 => match x, y with
  | .fz (.dict kvs), .fz yd => match (keyD yd).bind (getD kvs) with
    | some d => P (.fz d) n2
    | none => False
  | _, _ => False) m w fun x y n2 v u F2 H2 c x2 m2 r1 r2 => ?_
  split at c
  · rename_i kvs yd
    split at c
    · rename_i d hd
      cases hk : keyD yd with
      | none => rw [hk] at hd; cases hd
      | some kk =>
        rw [hk] at hd
        have r1' : Fz X.K F2 v (.dict kvs) := r1
        cases r1' with
        | dct g t =>
          obtain ⟨ek, ed⟩ := fz_key (show Fz X.K F2 u yd from r2) hk
          subst ek ed
          obtain ⟨z, hz, fz⟩ := getD_fz t hd
          exact ⟨_, z, rfl, .inl ⟨_, kk, .inr ⟨_, m2.fh _ _ g⟩, rfl, hz.symm⟩, k _ n2 z F2 H2 c x2 m2 fz⟩
    · exact c.elim
  · exact c.elim
/-! over a dict's keys -/
theorem wk_keys {K : PySem.W.Frag} {F1 : Hp} {a : Addr} {o : Obj} {kvs : List (Key × V)} (h : F1 a = some (.frz o (.dK kvs))) : Wk K W F1 (Itk a o kvs) (kvs.map fun p => kD p.1) := fun F ρ n σ H ff m => by
  have hs := m.fh _ _ (ff _ _ h)
  refine ⟨fun i d hd => ?_, fun i hi => ⟨hs, by simpa using hi⟩⟩
  rw [List.getElem?_map] at hd
  cases q : kvs[i]? with
  | none => rw [q] at hd; cases hd
  | some kv =>
    rw [q] at hd
    cases hd
    refine ⟨⟨hs, (List.getElem?_eq_some_iff.mp q).1⟩, fun x H' ⟨e, k, v, e2, ex⟩ => ?_⟩
    subst e ex
    rw [q] at e2
    cases e2
    refine ⟨F, .refl, m, ?_⟩
    cases k with
    | inl i => exact .int i
    | inr z => exact .str z
def wiKeys (we : WE) : WI := fun ρ n Q => we ρ n fun r n' => match r with
  | .fz (.dict kvs) => Q (kvs.map (·.1)) n'
  | _ => False
theorem pdi_keys {tg : Expr} (he : PD X W e we) : PDI X W tg e (wiKeys we) := imI (pi_keys he) fun σ H R ⟨F, ρ, n, P, m, h, k⟩ => by
  refine ⟨F, ρ, n, _, m, h, fun r n' v F' H' q x m' rv => ?_⟩
  split at q
  · rename_i kvs
    have rv' : Fz X.K F' v (.dict kvs) := rv
    cases rv' with
    | @dct a o kv ds g t =>
      refine ⟨a, o, rfl, .inl ⟨kv, m'.fh _ _ g, k _ n' F' H' _ ?_ x m' (wk_keys g)⟩⟩
      have hl := t.length
      rw [List.length_map] at hl
      have e : ((kv.map fun p => kD p.1).zip ds).map (·.1) = kv.map fun p => kD p.1 := by
        rw [List.map_fst_zip]
        rw [List.length_map]; omega
      rw [e] at q
      exact q
  · exact q.elim
end
end DL

namespace DL
open PySem PySem.Spec PyProof.Rows L2

/-! ### plain lemmas -/
theorem atI_nat {α : Type} {l : List α} {i : Int} {j : Nat} (e : i = j) (h : j < l.length) : atI l i = some l[j] := by
  subst e
  unfold atI ixN
  rw [if_pos (by omega), if_pos (by omega)]
  simp [h]
theorem atI_getD {α : Type} {l : List α} {i : Int} {j : Nat} {d : α} (e : i = j) (h : j < l.length) : atI l i = some (l.getD j d) := by
  rw [atI_nat e h, List.getD_eq_getElem?_getD, List.getElem?_eq_getElem h]
  rfl
/-! shaped -/
theorem lay_all {ds : List D} (h : ∀ d ∈ ds, SeqAt.shaped d = true) : PyData.canLayAll0 ds = true := by
  induction ds with
  | nil => rfl
  | cons d ds ih =>
    unfold PyData.canLayAll0
    rw [SeqAt.canLay_of_shaped (h d (List.mem_cons_self ..)), ih fun e he => h e (List.mem_cons_of_mem _ he)]
    rfl
theorem depth_all {k : Nat} {ds : List D} (h : ∀ d ∈ ds, d.depth ≤ k) : PyData.depthAll ds ≤ k := by
  induction ds with
  | nil => simp [PyData.depthAll]
  | cons d ds ih =>
    have h1 := h d (List.mem_cons_self ..)
    have h2 := ih fun e he => h e (List.mem_cons_of_mem _ he)
    simp only [PyData.depthAll]
    omega
theorem shaped_list {ds : List D} (h : ∀ d ∈ ds, SeqAt.shaped d = true) (h2 : ∀ d ∈ ds, d.depth ≤ 63) : SeqAt.shaped (.list ds) = true := by
  unfold SeqAt.shaped
  rw [Bool.and_eq_true, decide_eq_true_eq]
  refine ⟨by simpa [PyData.canLay0] using lay_all h, ?_⟩
  have := depth_all h2
  simp only [PyData.depth]
  omega
theorem shaped_int (i : Int) : SeqAt.shaped (.int i) = true := by simp [SeqAt.shaped, PyData.canLay0, PyData.depth]
theorem shaped_bool (i : Bool) : SeqAt.shaped (.bool i) = true := by simp [SeqAt.shaped, PyData.canLay0, PyData.depth]
theorem shaped_str {z : Str} (h : PyData.strOk z = true) : SeqAt.shaped (.str z) = true := by simp [SeqAt.shaped, PyData.canLay0, PyData.depth, h]
theorem shaped_nil : SeqAt.shaped (.list []) = true := by decide
theorem shaped_ints (ns : List Int) : SeqAt.shaped (.list (ns.map PyData.int)) = true := by
  refine shaped_list (fun d hd => ?_) (fun d hd => ?_) <;> (obtain ⟨i, _, rfl⟩ := List.mem_map.mp hd)
  · exact shaped_int i
  · simp [PyData.depth]
theorem shaped_bools (ns : List Bool) : SeqAt.shaped (.list (ns.map PyData.bool)) = true := by
  refine shaped_list (fun d hd => ?_) (fun d hd => ?_) <;> (obtain ⟨i, _, rfl⟩ := List.mem_map.mp hd)
  · exact shaped_bool i
  · simp [PyData.depth]
theorem shaped_strs {ns : List Str} (h : ∀ z ∈ ns, PyData.strOk z = true) : SeqAt.shaped (.list (ns.map PyData.str)) = true := by
  refine shaped_list (fun d hd => ?_) (fun d hd => ?_) <;> (obtain ⟨i, hi, rfl⟩ := List.mem_map.mp hd)
  · exact shaped_str (h i hi)
  · simp [PyData.depth]
theorem lay_mem : ∀ {ds : List D} {d : D}, PyData.canLayAll0 ds = true → d ∈ ds → d.canLay0 = true
  | [], _, _, h => by cases h
  | e :: ds, d, h, hd => by
    have h' : (e.canLay0 && PyData.canLayAll0 ds) = true := by simpa [PyData.canLayAll0] using h
    rw [Bool.and_eq_true] at h'
    rcases List.mem_cons.mp hd with rfl | hd
    · exact h'.1
    · exact lay_mem h'.2 hd
theorem depth_mem : ∀ {ds : List D} {d : D}, d ∈ ds → d.depth ≤ PyData.depthAll ds
  | [], _, h => by cases h
  | e :: ds, d, hd => by
    simp only [PyData.depthAll]
    rcases List.mem_cons.mp hd with rfl | hd
    · omega
    · have := depth_mem hd
      omega
theorem shaped_mem {ds : List D} {d : D} (h : SeqAt.shaped (.list ds) = true) (hd : d ∈ ds) : SeqAt.shaped d = true ∧ d.depth ≤ 63 := by
  unfold SeqAt.shaped at h ⊢
  rw [Bool.and_eq_true, decide_eq_true_eq] at h
  have h1 : PyData.canLayAll0 ds = true := by simpa [PyData.canLay0] using h.1
  have h2 := h.2
  simp only [PyData.depth] at h2
  have h3 := depth_mem hd
  refine ⟨?_, by omega⟩
  rw [Bool.and_eq_true, decide_eq_true_eq]
  exact ⟨lay_mem h1 hd, by omega⟩
theorem shaped_sub {ds es : List D} (h : SeqAt.shaped (.list ds) = true) (hs : ∀ e ∈ es, e ∈ ds) : SeqAt.shaped (.list es) = true := shaped_list (fun e he => (shaped_mem h (hs e he)).1) fun e he => (shaped_mem h (hs e he)).2
/-! eqv -/
theorem eqv_nil (ds : List D) : PyData.eqv (.list ds) (.list []) = ds.isEmpty := by
  cases ds <;> simp [PyData.eqv, PyData.eqvAll]
theorem eqv_str (s t : Str) : PyData.eqv (.str s) (.str t) = (s == t) := by simp [PyData.eqv]
theorem eqv_int (s t : Int) : PyData.eqv (.int s) (.int t) = (s == t) := by simp [PyData.eqv]
theorem eqv_bool (s t : Bool) : PyData.eqv (.bool s) (.bool t) = (s == t) := by simp [PyData.eqv]
theorem sign_eq (c d : Nat) : (({ cps := #[c] } : Str) == ({ cps := #[d] } : Str)) = (c == d) := by
  rw [Bool.eq_iff_iff, beq_iff_eq, beq_iff_eq]
  constructor
  · intro h; injection h with h; simpa using h
  · intro h; rw [h]
theorem any_sign (cs : List Nat) (c : Nat) : ((cs.map fun c => PyData.str ⟨#[c]⟩).any fun z => PyData.eqv z (.str ⟨#[c]⟩)) = decide (c ∈ cs) := by
  induction cs with
  | nil => simp
  | cons d cs ih =>
    rw [List.map_cons, List.any_cons, ih, eqv_str, sign_eq]
    by_cases h : d = c
    · subst h; simp
    · have h' : c ≠ d := fun z => h z.symm
      simp [h, h', List.mem_cons]
theorem any_sign0 (cs : List Nat) : ((cs.map fun c => PyData.str ⟨#[c]⟩).any fun z => PyData.eqv z (.str ⟨#[]⟩)) = false := by
  induction cs with
  | nil => simp
  | cons d cs ih =>
    rw [List.map_cons, List.any_cons, ih, eqv_str, Bool.or_false]
    rw [beq_eq_false_iff_ne]
    intro h; injection h with h; simp at h
theorem filter_empty {α : Type} (p : α → Bool) (l : List α) : (l.filter fun x => !p x).isEmpty = l.all p := by
  induction l with
  | nil => rfl
  | cons x l ih =>
    rw [List.filter_cons, List.all_cons]
    cases h : p x <;> simp [h, ih]
/-! lengths of what is shown -/
theorem listText_len (ts : List Str) : (listText ts).length ≤ piled ts + 2 := by
  cases ts with
  | nil => decide
  | cons t ts =>
    unfold listText
    rw [strLen_append]
    show (textFrom (0 + 1) (_ ++ _ ++ t) ts).length + _ ≤ _
    rw [textFrom_length_pos _ _ _ (by omega), strLen_append, strLen_append, piled_cons]
    have e1 : (Str.ofString "[").length = 1 := rfl
    have e2 : (Str.ofString "]").length = 1 := rfl
    have e3 : (Str.ofString (if 0 > 0 then ", " else "")).length = 0 := rfl
    show Str.length (Str.ofString "[") + Str.length (Str.ofString (if 0 > 0 then ", " else "")) + t.length + piled ts + (Str.ofString "]").length ≤ _
    omega
theorem tupleText_len (ts : List Str) : (tupleText ts).length ≤ piled ts + 3 := by
  unfold tupleText
  rw [strLen_append, strLen_append]
  have e1 : (Str.ofString "(").length = 1 := rfl
  have e2 : (Str.ofString (if ts.length == 1 then ",)" else ")")).length ≤ 2 := by split <;> decide
  have e3 : (Str.join ", " ts).length ≤ piled ts := by
    by_cases h : ts = []
    · subst h; decide
    · have := join_length_add ts h
      omega
  show Str.length (Str.ofString "(") + (Str.join ", " ts).length + (Str.ofString (if ts.length == 1 then ",)" else ")")).length ≤ _
  omega
theorem shownAll_map (ds : List D) : PyData.shownAll ds = ds.map PyData.shown := by
  induction ds with
  | nil => simp [PyData.shownAll]
  | cons d ds ih => simp [PyData.shownAll, ih]
theorem piled_le {k : Nat} {ds : List D} (h : ∀ d ∈ ds, d.shown.length ≤ k) : piled (PyData.shownAll ds) ≤ ds.length * (k + 2) := by
  rw [shownAll_map]
  induction ds with
  | nil => simp [piled]
  | cons d ds ih =>
    rw [List.map_cons, piled_cons, List.length_cons, Nat.succ_mul]
    have h1 := h d (List.mem_cons_self ..)
    have h2 := ih fun e he => h e (List.mem_cons_of_mem _ he)
    omega
theorem shown_list {k : Nat} {ds : List D} (h : ∀ d ∈ ds, d.shown.length ≤ k) : (PyData.shown (.list ds)).length ≤ ds.length * (k + 2) + 2 := by
  simp only [PyData.shown]
  have := listText_len (PyData.shownAll ds)
  have := piled_le h
  omega
theorem shown_tuple {k : Nat} {ds : List D} (h : ∀ d ∈ ds, d.shown.length ≤ k) : (PyData.shown (.tuple ds)).length ≤ ds.length * (k + 2) + 3 := by
  simp only [PyData.shown]
  have := tupleText_len (PyData.shownAll ds)
  have := piled_le h
  omega
theorem shown_str {z : Str} (h : PyData.strOk z = true) : (PyData.shown (.str z)).length ≤ 10 * z.length + 2 := by
  simp only [PyData.shown]
  refine StrLaws.reprText_len z fun c hc => ?_
  unfold PyData.strOk at h
  rw [Array.all_eq_true'] at h
  have := of_decide_eq_true (h c (by simpa using hc))
  omega
theorem shown_int {k : Nat} {a : Int} (hk : 0 < k) (h : a.natAbs < 10 ^ k) : (PyData.shown (.int a)).length ≤ k + 1 := by
  simp only [PyData.shown]
  show (Str.ofString (toString a)).length ≤ _
  rw [PySem.ofString_length]
  exact int_text_length_le10 hk h
theorem show_int {a : Int} (h : a.natAbs < 2 ^ 1900) : PyData.showable (.int a) = true := by
  simp only [PyData.showable, decide_eq_true_eq]
  by_cases h0 : a.natAbs = 0
  · rw [h0]; decide
  · have := (Nat.log2_lt h0).mpr h
    omega
theorem show_all {ds : List D} (h : ∀ d ∈ ds, d.showable = true) : PyData.showableAll ds = true := by
  induction ds with
  | nil => rfl
  | cons d ds ih =>
    unfold PyData.showableAll
    rw [h d (List.mem_cons_self ..), ih fun e he => h e (List.mem_cons_of_mem _ he)]
    rfl
end DL

namespace DL
open PySem PySem.Spec PyProof.Rows L2
section
variable {D : DE} {ρ : Rho} {n : Nat} {wi : WI} {wg : WG} {w w2 : WS} {wa wb we : WE} {o : O2}
theorem for_go (h : ∀ C : List DL.D → Nat → Prop, (∀ items n', forL wg w D items ρ n' → C items n') → wi ρ n C) : wFor wi wg w D ρ n := h _ fun _ _ q => q
theorem iany_go {C : List DL.D → Nat → Prop} (h : ∀ C' : RV → Nat → Prop, (∀ r n' d items, r.fr = .fz d → walk d = some items → C items n' → C' r n') → we ρ n C') : wiAny we ρ n C := by
  refine h _ fun r n' d items e1 e2 q => ?_
  show match r.fr with | .fz d => _ | _ => _
  rw [e1]
  show match walk d with | some ds => _ | none => _
  rw [e2]
  exact q
theorem bin_go {Q : RV → Nat → Prop} (h : ∀ C : RV → Nat → Prop, (∀ x n1, wb ρ n1 (fun y n2 => o x y fun z => Q z n2) → C x n1) → wa ρ n C) : wBin o wa wb ρ n Q := h _ fun _ _ q => q
theorem comp_go {vs : List Nat} {wt : WT} {Q : RV → Nat → Prop} (h : ∀ C : List DL.D → Nat → Prop, (∀ items n1, items.length ≤ sizeLine → compL (wipeR ρ vs) wg wt we items n1 (fun ds n2 => Q (.tmp ds) n2) → C items n1) → wi ρ n C) : wComp vs wi wg wt we ρ n Q := h _ fun items n1 h1 h2 => ⟨h1, h2⟩
end
theorem cutD_mem {ds : List D} {lo hi : Option Int} {d : D} (h : d ∈ cutD ds lo hi) : d ∈ ds := List.mem_of_mem_drop (List.mem_of_mem_take h)
theorem cutD_len {ds : List D} {lo hi : Option Int} : (cutD ds lo hi).length ≤ ds.length := by
  unfold cutD
  rw [List.length_take, List.length_drop]
  omega
theorem unGen_no (ρ : Rho) (j : Nat) : (unGen ρ)[j]? ≠ some (some EV.gen) := fun h => (unGen_get h).2 rfl
theorem frz_go {w : WS} {D : DE} {ρ : Rho} {n i : Nat} (h : w D (frz i ρ) n) : wFrz i w D ρ n := h
theorem trues_any {ds : List D} (h : ∀ d ∈ ds, d = .bool true) : (ds.any fun z => z.eqv (PyData.bool false)) = false := by
  rw [List.any_eq_false]
  intro z hz
  rw [h z hz]
  decide
theorem trues_shaped {ds : List D} (h : ∀ d ∈ ds, d = .bool true) : SeqAt.shaped (.list ds) = true := by
  refine shaped_list (fun d hd => ?_) (fun d hd => ?_)
  · rw [h d hd]; exact shaped_bool _
  · rw [h d hd]; simp [PyData.depth]
section
variable {D : DE} {ρ : Rho} {n : Nat} {wi : WI} {wg : WG} {w w2 : WS}
theorem seq_forD (h : ∀ C : List DL.D → Nat → Prop, (∀ items n', (∀ DD : DE, DD.nx = w2 D → DD.rt = D.rt → forL wg w DD items ρ n') → C items n') → wi ρ n C) : wSeq (wFor wi wg w) w2 D ρ n := h _ fun items n' q => q _ rfl rfl
theorem for_goD (h : ∀ C : List DL.D → Nat → Prop, (∀ items n', (∀ DD : DE, DD.nx = D.nx → DD.rt = D.rt → forL wg w DD items ρ n') → C items n') → wi ρ n C) : wFor wi wg w D ρ n := h _ fun items n' q => q _ rfl rfl
end
theorem seq_setP {D : DE} {ρ : Rho} {n i : Nat} {we : WE} {w2 : WS} (Pd : EV → Nat → Prop) (h1 : ∀ C : RV → Nat → Prop, (∀ r n' ev, r.ev = some ev → Pd ev n' → C r n') → we ρ n C) (h2 : ∀ ev n', Pd ev n' → w2 D (ρ.set i (some ev)) n') : wSeq (wSet i we) w2 D ρ n :=
  seq_set fun C hC => h1 C fun r n' ev e p => hC r n' ev e (h2 ev n' p)
end DL

namespace DL
open PySem PySem.Spec PyProof.Rows L2
theorem frz_shape (i : Nat) (ρ : Rho) : ∃ x, frz i ρ = ρ.set i x := by
  unfold DL.frz
  split
  · exact ⟨_, rfl⟩
  · by_cases h : i < ρ.length
    · exact ⟨ρ[i], (List.set_getElem_self h).symm⟩
    · exact ⟨none, (List.set_eq_of_length_le (by omega)).symm⟩
theorem frz_goU {w : WS} {D : DE} {ρ : Rho} {n i : Nat} (h : ∀ x, w D (ρ.set i x) n) : wFrz i w D ρ n := by
  obtain ⟨x, e⟩ := frz_shape i ρ
  show w D (frz i ρ) n
  rw [e]
  exact h x
theorem rho_to {w : WS} {D : DE} {ρ ρ' : Rho} {n : Nat} (e : ρ = ρ') (h : w D ρ' n) : w D ρ n := by rw [e]; exact h
end DL

namespace DL
open PySem PySem.Spec PyProof.Rows L2

/-! ### the end: a law's promise that leans on the guards -/
/-- the heap in which the script alone is known -/
def scriptHp (K : PySem.W.Frag) (a : Addr) (o : Obj) (xs : List V) : Hp := fun b => if b = a ∧ K.lookup a = none then some (.frz o (.lst xs)) else none
theorem scriptHp_some {K : PySem.W.Frag} {a b : Addr} {o : Obj} {xs : List V} {u : HO} (h : scriptHp K a o xs b = some u) : b = a ∧ K.lookup a = none ∧ u = .frz o (.lst xs) := by
  unfold scriptHp at h
  split at h
  · rename_i c
    cases h
    exact ⟨c.1, c.2, rfl⟩
  · cases h
theorem law_callG {P : Program} {w : World} {K : PySem.W.Frag} {mg mb : Str → Option Value} {k : Nat} {fa a : Addr} {fd : FuncData} {x : Str} {sp : Sp} {s₁ : Shared} {vs : List Value} {ns : List Int}
    (KX : K.In s₁.heap) (hns : s₁.heap.Ns mainGlobals mg) (hb : s₁.heap.Ns builtinsNs mb) (hbb : ∀ x : Str, x ≠ "__name__" → mb x = bootBuiltins x) (hlim : s₁.heap.NoLimit) (hg : s₁.gens = #[])
    (ha : s₁.heap.get? a = some { cls := .type "list", data := .seq vs.toArray }) (hi : IntsAre vs ns) (hl : ns.length ≤ sizeLine) (hr : Room k callerA)
    (F : ∀ base : Heap, K.In base → base.Ns mainGlobals mg → FnG P w K mg base CX0 k fa fd [x] sp) (hbind : ∀ (s : Shared) (u : Value), BindsTo s fd ⟨[u], []⟩ [(x, u)])
    (hsp : ∀ H : Hp, SqL K H a (ns.map V.int) → sp [.ref a] H (fun v _ => v = .bl true) fun _ _ _ => False) :
    codeAny (model P w) callerA (.call (.ref fa) ⟨[.ref a], []⟩) (fun r s' => r = .ok (.ret (.bool true)) ∧ OldK s₁.heap s'.heap ∧ s'.os = s₁.os ∧ AllBare s'.gens) s₁ := by
  have rv := vals_ints hi
  let o : Obj := { cls := .type "list", data := .seq vs.toArray }
  let H : Hp := scriptHp K a o (ns.map V.int)
  have hok : HOk P w H s₁.heap := fun b u z => by
    obtain ⟨rfl, _, rfl⟩ := scriptHp_some z
    exact ⟨ha, by rw [List.length_map]; exact hl, vs, _, rv, ha⟩
  have hS : SqL K H a (ns.map V.int) := by
    cases hk : K.lookup a with
    | none => exact .inl (.inr ⟨o, if_pos ⟨rfl, hk⟩⟩)
    | some o' =>
      have e := (KX a o' hk).symm.trans ha
      cases e
      exact .inr ⟨_, vs.toArray, _, hk, rfl, rfl, rfl, by rw [List.size_toArray, hi.length]; exact hl, by simpa using rv⟩
  have noDict : ∀ {b : Addr} {ob : Obj} {es : Array DictEntry} {ep : Nat}, s₁.heap.get? b = some ob → ob.data = .dict es ep → H b = none := fun {b ob es ep} e d => by
    cases q : H b with
    | none => rfl
    | some u =>
      obtain ⟨rfl, _, _⟩ := scriptHp_some q
      rw [ha] at e
      cases e
      exact nomatch (show Data.seq vs.toArray _ = Data.dict es ep from d)
  have nsK : ∀ {b : Addr} {m : Str → Option Value}, s₁.heap.Ns b m → (hidT s₁.heap H).Ns b m := fun {b m} ⟨ob, es, ep, e, d, r⟩ => ⟨ob, es, ep, hidT_get e (noDict e d), d, r⟩
  have inK : K.In (hidT s₁.heap H) := fun b ob e => hidT_get (KX b ob e) (by
    cases q : H b with
    | none => rfl
    | some u =>
      obtain ⟨rfl, hk, _⟩ := scriptHp_some q
      rw [hk] at e
      cases e)
  have hM : Mod K mg (hidT s₁.heap H) := ⟨inK, nsK hns, ⟨mb, nsK hb, hbb⟩, let ⟨mc, h1, h2⟩ := hlim; ⟨mc, nsK h1, h2⟩⟩
  have e0 : Env0 P w K mg (hidT s₁.heap H) callerA [] s₁ H := ⟨rfl, hM, fun b ob e => of_hidT e, Nat.le_of_eq (hidT_size _ _), trivial, fun b hb => absurd (show b ∈ ([] : List Addr) from hb) (by simp), hok, .of_eq hg⟩
  refine codeAny_mono ((F _ inK (nsK hns)).run callerA [] s₁ H ⟨[.ref a], []⟩ [.ref a] [.ref a] _ _ rfl hr e0 (hbind s₁ (.ref a)) (.cons rfl .nil) (hsp H hS)) fun r s' h => ?_
  cases r with
  | error e => exact False.elim h
  | ok fl =>
    cases fl with
    | ret u =>
      obtain ⟨v, H', os, bare, un, hok', r', q⟩ := h
      cases (show v = .bl true from q)
      cases (show u = Value.bool true from r')
      refine ⟨rfl, OldK.of_keep fun b ob e => ?_, os, bare⟩
      cases q : H b with
      | none => exact un.keep b ob e q (by intro z; exact absurd (show b ∈ ([] : List Addr) from z) (by simp)) (by simp)
      | some u =>
        obtain ⟨_, _, rfl⟩ := scriptHp_some q
        obtain ⟨e1, _⟩ := hok b _ q
        obtain ⟨e2, _⟩ := hok' b _ (un.frzs b _ _ q)
        exact (e.symm.trans e1) ▸ e2
    | _ => exact False.elim h
theorem walk_ofG {l : PySem.W.OpenLaw} {n k : Nat} {q : Program} {loose : List Str} {XP : (Str → Option Value) → Heap → Prop} {YP : World → Heap → Prop} {d : DefRec} {K : Params → PySem.W.Frag} {sp : World → Sp} {x : Str}
    (hn : l.most = some n) (hn2 : n ≤ sizeLine) (hdf : d.params.defaults = []) (hr : Room k callerA) (hY : ∀ (w : World) (h : Heap), YP w h → (K w.params).In h)
    (F : ∀ (w : World) (mg : Str → Option Value) (fa : Addr) (h : Heap), (K w.params).In h → h.Ns mainGlobals mg → mg d.name = some (.ref fa) →
      ∃ fd : FuncData, (∀ (s : Shared) (u : Value), BindsTo s fd ⟨[u], []⟩ [(x, u)]) ∧ ∀ base : Heap, (K w.params).In base → base.Ns mainGlobals mg → FnG l.prog w (K w.params) mg base CX0 k fa fd [x] (sp w))
    (hsp : ∀ (w : World) (H : Hp) (a : Addr) (ns : List Int), ns.length ≤ n → SqL (K w.params) H a (ns.map V.int) → sp w [.ref a] H (fun v _ => v = .bl true) fun _ _ _ => False) :
    PySem.W.WalkO q loose XP YP l.row.toRowW d [] (fun f vs => PySem.call f vs) := by
  refine Att.attach_call hn hdf fun w s₀ s₁ mg mb fa o pm cd doc a vs ns G Y ho hd hcd hmg hobj hints hlen hg => ?_
  obtain ⟨fd, hb, hF⟩ := F w mg fa _ (hY w _ Y) G.T.g hmg
  exact law_callG (hY w _ Y) G.T.g G.T.b G.T.builtins G.T.nolimit hg hobj hints (Nat.le_trans hlen hn2) hr hF hb fun H hS => hsp w H a ns hlen hS
/-- a law that holds of every script gives its promise -/
theorem liftSp0_law {K : PySem.W.Frag} {c : Ct} {H : Hp} {a : Addr} {ns : List Int} (hS : SqL K H a (ns.map V.int)) (h : ∀ n Q, n = 0 → Q (.fz (.bool true)) n → c [.scr ns] n Q) :
    liftSp0 K Gk c [.ref a] H (fun v _ => v = .bl true) fun _ _ _ => False := by
  refine ⟨H, 0, [.scr ns], fun r _ => r = .fz (.bool true), ⟨Nat.le_refl _, Same.refl H, Same.refl H, fun a o e _ => e, fun a e => e, fun a _ e => e, (fun p hp => nomatch hp), fun i e h => by simp at h, fun i j di dj p h => by simp at h⟩, .cons ⟨a, rfl, hS⟩ rfl .nil, rfl, h 0 _ rfl rfl, fun r n' v F' H' e _ rv => ?_⟩
  subst e
  exact rv.bool rfl
end DL

namespace K02
open PySem PySem.Spec PyProof.Rows L2 DL
theorem hu65 {k : Nat} {A : Around} (hr : Room k A) : A.units + 65 < cLine := by have := hr.un; omega
theorem hu1 {k : Nat} {A : Around} (hr : Room k A) : A.units + 1 < cLine := by have := hr.un; omega
theorem hu101 {k : Nat} {A : Around} (hr : Room k A) : A.units + 101 < cLine := by have := hr.un; omega
def topS (i : Nat) : Stmt := PySem.Challenge.pw_saidbydigits_k02_names_places_and_bases.main.body.getD i (.Pass ⟨0, 0, 0, 0⟩)
abbrev s_is_whole : Stmt := topS 4
theorem sc_is_whole : FnScope ["value"] ["value"] (defScope s_is_whole) := ⟨rfl, rfl, rfl, by decide +kernel, rfl, by decide +kernel, by decide +kernel⟩
abbrev s_is_name : Stmt := topS 5
theorem sc_is_name : FnScope ["value", "sign"] ["value"] (defScope s_is_name) := ⟨rfl, rfl, rfl, by decide +kernel, rfl, by decide +kernel, by decide +kernel⟩
abbrev s_is_rising : Stmt := topS 6
theorem sc_is_rising : FnScope ["items", "at"] ["items"] (defScope s_is_rising) := ⟨rfl, rfl, rfl, by decide +kernel, rfl, by decide +kernel, by decide +kernel⟩
abbrev s_is_places : Stmt := topS 7
theorem sc_is_places : FnScope ["value", "name"] ["value"] (defScope s_is_places) := ⟨rfl, rfl, rfl, by decide +kernel, rfl, by decide +kernel, by decide +kernel⟩
abbrev s_is_base : Stmt := topS 8
theorem sc_is_base : FnScope ["value"] ["value"] (defScope s_is_base) := ⟨rfl, rfl, rfl, by decide +kernel, rfl, by decide +kernel, by decide +kernel⟩
abbrev s__law_hash : Stmt := topS 10
theorem sc__law_hash : FnScope ["seed", "index", "mixed"] ["seed", "index"] (defScope s__law_hash) := ⟨rfl, rfl, rfl, by decide +kernel, rfl, by decide +kernel, by decide +kernel⟩
abbrev s__law_cell : Stmt := topS 11
theorem sc__law_cell : FnScope ["script", "index"] ["script", "index"] (defScope s__law_cell) := ⟨rfl, rfl, rfl, by decide +kernel, rfl, by decide +kernel, by decide +kernel⟩
abbrev s__law_generator : Stmt := topS 12
theorem sc__law_generator : FnScope ["script", "index", "seed"] ["script", "index"] (defScope s__law_generator) := ⟨rfl, rfl, rfl, by decide +kernel, rfl, by decide +kernel, by decide +kernel⟩
abbrev s__law_random : Stmt := topS 13
theorem sc__law_random : FnScope ["generator", "bound", "drawn", "turn"] ["generator", "bound"] (defScope s__law_random) := ⟨rfl, rfl, rfl, by decide +kernel, rfl, by decide +kernel, by decide +kernel⟩
abbrev s__law_pick : Stmt := topS 14
theorem sc__law_pick : FnScope ["generator", "things"] ["generator", "things"] (defScope s__law_pick) := ⟨rfl, rfl, rfl, by decide +kernel, rfl, by decide +kernel, by decide +kernel⟩
abbrev s__law_copied : Stmt := topS 15
theorem sc__law_copied : FnScope ["value", "item", "key"] ["value"] (defScope s__law_copied) := ⟨rfl, rfl, rfl, by decide +kernel, rfl, by decide +kernel, by decide +kernel⟩
abbrev s__law_unlike : Stmt := topS 16
theorem sc__law_unlike : FnScope ["items", "found", "item"] ["items"] (defScope s__law_unlike) := ⟨rfl, rfl, rfl, by decide +kernel, rfl, by decide +kernel, by decide +kernel⟩
abbrev s__law_any : Stmt := topS 17
theorem sc__law_any : FnScope ["generator", "menu"] ["generator"] (defScope s__law_any) := ⟨rfl, rfl, rfl, by decide +kernel, rfl, by decide +kernel, by decide +kernel⟩
abbrev s__law_exact : Stmt := topS 18
theorem sc__law_exact : FnScope ["told", "due", "key", "one", "other"] ["told", "due"] (defScope s__law_exact) := ⟨rfl, rfl, rfl, by decide +kernel, rfl, by decide +kernel, by decide +kernel⟩
abbrev s__law_name : Stmt := topS 19
theorem sc__law_name : FnScope ["value", "sign"] ["value"] (defScope s__law_name) := ⟨rfl, rfl, rfl, by decide +kernel, rfl, by decide +kernel, by decide +kernel⟩
abbrev s__law_rise : Stmt := topS 20
theorem sc__law_rise : FnScope ["items", "at"] ["items"] (defScope s__law_rise) := ⟨rfl, rfl, rfl, by decide +kernel, rfl, by decide +kernel, by decide +kernel⟩
abbrev s__law_string : Stmt := topS 21
theorem sc__law_string : FnScope ["generator", "signs", "turn"] ["generator"] (defScope s__law_string) := ⟨rfl, rfl, rfl, by decide +kernel, rfl, by decide +kernel, by decide +kernel⟩
abbrev s__law_numbers : Stmt := topS 22
theorem sc__law_numbers : FnScope ["generator", "turn"] ["generator"] (defScope s__law_numbers) := ⟨rfl, rfl, rfl, by decide +kernel, rfl, by decide +kernel, by decide +kernel⟩
abbrev s__law_judged : Stmt := topS 23
theorem sc__law_judged : FnScope ["value", "kept", "lots", "due", "told", "again", "item"] ["value"] (defScope s__law_judged) := ⟨rfl, rfl, rfl, by decide +kernel, rfl, by decide +kernel, by decide +kernel⟩
abbrev s_law : Stmt := topS 24
theorem sc_law : FnScope ["script", "index", "generator", "turn", "numbers", "menu", "names", "good", "lists", "value", "many", "due", "rest", "at", "name"] ["script"] (defScope s_law) := ⟨rfl, rfl, rfl, by decide +kernel, rfl, by decide +kernel, by decide +kernel⟩
structure Txt (K : PySem.W.Frag) (mg : Str → Option Value) where
  a_is_whole : Addr
  fd_is_whole : FuncData
  F_is_whole : Fun K "is_whole" "is_whole" s_is_whole a_is_whole fd_is_whole
  g_is_whole : mg "is_whole" = some (.ref a_is_whole)
  b_is_whole : Binds K fd_is_whole ["value"] []
  a_is_name : Addr
  fd_is_name : FuncData
  F_is_name : Fun K "is_name" "is_name" s_is_name a_is_name fd_is_name
  g_is_name : mg "is_name" = some (.ref a_is_name)
  b_is_name : Binds K fd_is_name ["value"] []
  kb_is_name : KB K fd_is_name ["value"] ["value"] [0]
  a_is_rising : Addr
  fd_is_rising : FuncData
  F_is_rising : Fun K "is_rising" "is_rising" s_is_rising a_is_rising fd_is_rising
  g_is_rising : mg "is_rising" = some (.ref a_is_rising)
  b_is_rising : Binds K fd_is_rising ["items"] []
  a_is_places : Addr
  fd_is_places : FuncData
  F_is_places : Fun K "is_places" "is_places" s_is_places a_is_places fd_is_places
  g_is_places : mg "is_places" = some (.ref a_is_places)
  b_is_places : Binds K fd_is_places ["value"] []
  kb_is_places : KB K fd_is_places ["value"] ["value"] [0]
  a_is_base : Addr
  fd_is_base : FuncData
  F_is_base : Fun K "is_base" "is_base" s_is_base a_is_base fd_is_base
  g_is_base : mg "is_base" = some (.ref a_is_base)
  b_is_base : Binds K fd_is_base ["value"] []
  kb_is_base : KB K fd_is_base ["value"] ["value"] [0]
  a__law_hash : Addr
  fd__law_hash : FuncData
  F__law_hash : Fun K "_law_hash" "_law_hash" s__law_hash a__law_hash fd__law_hash
  g__law_hash : mg "_law_hash" = some (.ref a__law_hash)
  b__law_hash : Binds K fd__law_hash ["seed", "index"] []
  a__law_cell : Addr
  fd__law_cell : FuncData
  F__law_cell : Fun K "_law_cell" "_law_cell" s__law_cell a__law_cell fd__law_cell
  g__law_cell : mg "_law_cell" = some (.ref a__law_cell)
  b__law_cell : Binds K fd__law_cell ["script", "index"] []
  a__law_generator : Addr
  fd__law_generator : FuncData
  F__law_generator : Fun K "_law_generator" "_law_generator" s__law_generator a__law_generator fd__law_generator
  g__law_generator : mg "_law_generator" = some (.ref a__law_generator)
  b__law_generator : Binds K fd__law_generator ["script", "index"] []
  a__law_random : Addr
  fd__law_random : FuncData
  F__law_random : Fun K "_law_random" "_law_random" s__law_random a__law_random fd__law_random
  g__law_random : mg "_law_random" = some (.ref a__law_random)
  b__law_random : Binds K fd__law_random ["generator", "bound"] []
  a__law_pick : Addr
  fd__law_pick : FuncData
  F__law_pick : Fun K "_law_pick" "_law_pick" s__law_pick a__law_pick fd__law_pick
  g__law_pick : mg "_law_pick" = some (.ref a__law_pick)
  b__law_pick : Binds K fd__law_pick ["generator", "things"] []
  a__law_copied : Addr
  fd__law_copied : FuncData
  F__law_copied : Fun K "_law_copied" "_law_copied" s__law_copied a__law_copied fd__law_copied
  g__law_copied : mg "_law_copied" = some (.ref a__law_copied)
  b__law_copied : Binds K fd__law_copied ["value"] []
  a__law_unlike : Addr
  fd__law_unlike : FuncData
  F__law_unlike : Fun K "_law_unlike" "_law_unlike" s__law_unlike a__law_unlike fd__law_unlike
  g__law_unlike : mg "_law_unlike" = some (.ref a__law_unlike)
  b__law_unlike : Binds K fd__law_unlike ["items"] []
  a__law_any : Addr
  fd__law_any : FuncData
  F__law_any : Fun K "_law_any" "_law_any" s__law_any a__law_any fd__law_any
  g__law_any : mg "_law_any" = some (.ref a__law_any)
  b__law_any : Binds K fd__law_any ["generator"] []
  a__law_exact : Addr
  fd__law_exact : FuncData
  F__law_exact : Fun K "_law_exact" "_law_exact" s__law_exact a__law_exact fd__law_exact
  g__law_exact : mg "_law_exact" = some (.ref a__law_exact)
  b__law_exact : Binds K fd__law_exact ["told", "due"] []
  a__law_name : Addr
  fd__law_name : FuncData
  F__law_name : Fun K "_law_name" "_law_name" s__law_name a__law_name fd__law_name
  g__law_name : mg "_law_name" = some (.ref a__law_name)
  b__law_name : Binds K fd__law_name ["value"] []
  a__law_rise : Addr
  fd__law_rise : FuncData
  F__law_rise : Fun K "_law_rise" "_law_rise" s__law_rise a__law_rise fd__law_rise
  g__law_rise : mg "_law_rise" = some (.ref a__law_rise)
  b__law_rise : Binds K fd__law_rise ["items"] []
  a__law_string : Addr
  fd__law_string : FuncData
  F__law_string : Fun K "_law_string" "_law_string" s__law_string a__law_string fd__law_string
  g__law_string : mg "_law_string" = some (.ref a__law_string)
  b__law_string : Binds K fd__law_string ["generator"] []
  a__law_numbers : Addr
  fd__law_numbers : FuncData
  F__law_numbers : Fun K "_law_numbers" "_law_numbers" s__law_numbers a__law_numbers fd__law_numbers
  g__law_numbers : mg "_law_numbers" = some (.ref a__law_numbers)
  b__law_numbers : Binds K fd__law_numbers ["generator"] []
  a__law_judged : Addr
  fd__law_judged : FuncData
  F__law_judged : Fun K "_law_judged" "_law_judged" s__law_judged a__law_judged fd__law_judged
  g__law_judged : mg "_law_judged" = some (.ref a__law_judged)
  b__law_judged : Binds K fd__law_judged ["value"] []
  a_law : Addr
  fd_law : FuncData
  F_law : Fun K "law" "law" s_law a_law fd_law
  g_law : mg "law" = some (.ref a_law)
  b_law : Binds K fd_law ["script"] []
  z_all : mg "all" = none
  z_bool : mg "bool" = none
  z_dict : mg "dict" = none
  z_int : mg "int" = none
  z_isinstance : mg "isinstance" = none
  z_len : mg "len" = none
  z_list : mg "list" = none
  z_max : mg "max" = none
  z_range : mg "range" = none
  z_repr : mg "repr" = none
  z_sorted : mg "sorted" = none
  z_str : mg "str" = none
  z_sum : mg "sum" = none
  z_tuple : mg "tuple" = none
  z_zip : mg "zip" = none
  t_SMALL : Tok
  c_SMALL : mg "SMALL" = some (.str (Str.ofString "abcdefghijklmnopqrstuvwxyz") t_SMALL)
  t_FIGURES : Tok
  c_FIGURES : mg "FIGURES" = some (.str (Str.ofString "0123456789") t_FIGURES)
  t_MOST_NAME : Tok
  c_MOST_NAME : mg "MOST_NAME" = some (.int 8 t_MOST_NAME)
local macro_rules | `(tactic| walk_at "dlx") => `(tactic| simp only [↓reduceIte, ↓DL.isNon, ↓DL.wNever, ↓DL.wSeq, ↓DL.wIf, ↓DL.wOr, ↓DL.wAnd, ↓DL.wNot, ↓DL.wB, ↓DL.wIsi, ↓DL.wVar, ↓DL.wC, ↓DL.wBin, ↓DL.wUn, ↓DL.wChain, ↓DL.wAndV, ↓DL.wOrV, ↓DL.wNotV, ↓DL.wRet, ↓DL.wRetN, ↓DL.wSkip, ↓DL.wCB, ↓DL.wCons, ↓DL.wNil, ↓DL.wCall, ↓DL.wSet, ↓DL.wFrz, ↓DL.frz, ↓DL.rho0, ↓DL.wLst, ↓DL.wTup, ↓DL.wComp, ↓DL.wiAny, ↓DL.walk, ↓DL.wSl, ↓DL.woNone, ↓DL.woSome, ↓DL.wIfE, ↓DL.RV.slot, ↓DL.RV.rd, ↓DL.RV.fr, ↓DL.RV.isFz, ↓DL.RV.un, ↓DL.RV.arg, ↓DL.RV.ret, ↓DL.RV.ev, ↓DL.EV.rv, ↓DL.o1, ↓DL.oLen, ↓DL.oAll, ↓DL.oAny, ↓DL.oIx, ↓DL.oCut, ↓DL.oEq, ↓DL.oIn, ↓DL.oOrd, ↓DL.oLt, ↓DL.oLe, ↓DL.oGt, ↓DL.oGe, ↓DL.oIs, ↓DL.oAdd, ↓DL.oSub, ↓DL.oInt, ↓DL.oMul, ↓DL.oMod, ↓DL.oDiv, ↓DL.oPow, ↓DL.oNeg, ↓DL.oRepr, ↓DL.oTuple, ↓DL.oList, ↓DL.oIntOf, ↓DL.oStrOf, ↓DL.oMax2, ↓DL.wgN, ↓DL.wiRng1, ↓DL.wiRng2, ↓DL.wiZip, ↓DL.wgTup, ↓DL.wgCons, ↓DL.wgNil, ↓DL.wIfE, ↓DL.wDict1, ↓DL.wDget, ↓DL.wiKeys, ↓DL.oDictOf, ↓DL.wCallK, ↓DL.pick, ↓DL.wipeR, ↓DL.oLenS, ↓DL.oIxS, ↓DL.wGix, ↓DL.wGset, ↓DL.wBits, ↓DL.wFor, ↓DL.oCutS, ↓DL.wApp, ↓DL.wJoin, ↓DL.wDrop, ↓DL.wPass, ↓DL.wRev,
  List.getElem?_cons_zero, List.getElem?_cons_succ, List.map_cons, List.map_nil, List.length_cons, List.length_nil, List.replicate, List.cons_append, List.nil_append, List.append_nil, List.all_cons, List.all_nil, List.set_cons_zero, List.set_cons_succ, List.set_nil,
  Bool.and_true, Bool.true_and, if_true, if_false, Bool.false_eq_true, Bool.not_true, Bool.not_false, true_and, and_true, ↓DL.isOf])
section
variable {P : Program} {w : World} {K : PySem.W.Frag} {mg : Str → Option Value} {base : Heap}
def isWhole (d : D) : Bool := isOf .int d && !isOf .bool d
def cWhole : Ct := fun rs n Q => ∃ d, rs = [.fz d] ∧ Q (.fz (.bool (isWhole d))) n
theorem ok_is_whole (T : Txt K mg) : FnG P w K mg base CX0 1 T.a_is_whole T.fd_is_whole ["value"] (liftSp K Gk cWhole) := by
  refine fn_ok (k := 0) T.F_is_whole sc_is_whole (fun rs n Q ⟨d, e, _⟩ => by rw [e]; rfl) (fun cdv A outer s H E g B F0 hgd hr => (pds_one (pds_ret (pd_and (pd_isi .int (by rfl) T.z_isinstance (by rfl) T.z_int (by decide +kernel) (pd_var (pv 0))) (pd_one (pd_not (pd_isi .bool (by rfl) T.z_isinstance (by rfl) T.z_bool (by decide +kernel) (pd_var (pv 0))))))))) (fun rs n Q h _ => ?_)
  obtain ⟨d, rfl, q⟩ := h
  cases d <;> (walk_at "dlx"; simpa [isWhole, isOf] using q)

def SM : Str := "abcdefghijklmnopqrstuvwxyz"
def FG : Str := "0123456789"
def inS (c : Nat) (z : Str) : Bool := decide (c ∈ z.cps.toList)
def nameS (z : Str) : Bool := decide (0 < z.length) && decide (z.length ≤ 8) && inS (z.cps.toList.headD 0) SM && z.cps.toList.all fun c => inS c SM || inS c FG
def nameD : D → Bool
  | .str z => nameS z
  | _ => false
def okT (d : D) : Prop := ∀ z, d = .str z → z.length ≤ sizeLine ∧ PyData.strOk z = true
def cName : Ct := fun rs n Q => ∃ d, rs = [.fz d] ∧ okT d ∧ Q (.fz (.bool (nameD d))) n
theorem ok_is_name (T : Txt K mg) : FnG P w K mg base CX0 1 T.a_is_name T.fd_is_name ["value"] (liftSp K Gk cName) := by
  refine fn_ok (k := 0) T.F_is_name sc_is_name (fun rs n Q ⟨d, e, _⟩ => by rw [e]; rfl) (fun cdv A outer s H E g B F0 hgd hr => (pds_cons (pds_if (PW.pt (pdw_or (pdt_not (pdt_val (pd_isi .str (by rfl) T.z_isinstance (by rfl) T.z_str (by decide +kernel) (pd_var (pv 0))))) (pdw_or (pdt_not (pdt_chain od_lt od_le pd_int (pd_callB cd_len (by rfl) T.z_len (by decide +kernel) (pda_cons (pd_var (pv 0)) pda_nil)) (pd_gint (by rfl) T.c_MOST_NAME))) (pdw_or1 (pdt_cmp (od_notin (hu65 hr)) (pd_ix id_ix (pd_var (pv 0)) pd_int (fun _ _ => rfl)) (pd_gstr (by rfl) T.c_SMALL) (by first | exact nomark _ | rfl)))))) (pds_one (pds_ret pd_bl)) pds_nil)
      (pds_one (pds_ret (pd_callB (cd_all rfl) (by rfl) T.z_all (by decide +kernel) (pda_cons (pd_lc (own := [("sign", 1)]) rfl sc_is_name.nd (pdi_any (pd_var (pv 0))) (blkOk_by (N := ["value", "sign"]) (sc := defScope s_is_name) (by decide +kernel)) (by decide) (fun _ _ _ _ _ => (pdg_name (pg_name (i := 1) sc_is_name.nd rfl (by first | exact Or.inl rfl | exact Or.inr rfl)))) (fun _ _ _ _ _ => pdts_nil) (fun _ _ _ _ _ => (pd_or (pd_cmp (od_in (hu65 hr)) (pd_var (pv 1)) (pd_gstr (by rfl) T.c_SMALL) (by first | exact nomark _ | rfl)) (pd_one (pd_cmp (od_in (hu65 hr)) (pd_var (pv 1)) (pd_gstr (by rfl) T.c_FIGURES) (by first | exact nomark _ | rfl)))))) pda_nil)))))) (fun rs n Q h _ => ?_)
  obtain ⟨d, rfl, hz, q⟩ := h
  cases d with
  | str z =>
    have hl := (hz z rfl).1
    walk_at "dlx"
    refine ⟨hl, ?_⟩
    by_cases h0 : 0 < (z.length : Int)
    · rw [decide_eq_true h0]
      dsimp only
      by_cases h8 : (z.length : Int) ≤ 8
      · simp only [decide_eq_true h8, Bool.not_true, if_false, Bool.false_eq_true]
        refine ⟨hl, ?_⟩
        obtain ⟨⟨cs⟩⟩ := z
        cases cs with
        | nil => simp [Str.length] at h0
        | cons c cs =>
          rw [show atI (Str.cps ⟨⟨c :: cs⟩⟩).toList 0 = some c by simp [atI, ixN]]
          refine ⟨rfl, ?_⟩
          rw [show (#[c] : Array Nat).getD 0 0 = c from rfl]
          have eN : nameD (.str ⟨⟨c :: cs⟩⟩) = (inS c SM && (c :: cs).all fun c => inS c SM || inS c FG) := by
            have e1 : decide (0 < (Str.mk ⟨c :: cs⟩).length) = true := decide_eq_true (by simpa [Str.length] using h0)
            have e2 : decide ((Str.mk ⟨c :: cs⟩).length ≤ 8) = true := decide_eq_true (by have := h8; simp [Str.length] at this ⊢; omega)
            simp only [nameD, nameS, e1, e2, Bool.true_and]
            rfl
          rw [eN] at q
          cases hc : decide (c ∈ (Str.ofString "abcdefghijklmnopqrstuvwxyz").cps.toList) with
          | false =>
            have e3 : inS c SM = false := hc
            simp only [Bool.not_false, if_true]
            simpa [e3] using q
          | true =>
            have e3 : inS c SM = true := hc
            simp only [Bool.not_true, if_false, Bool.false_eq_true]
            refine ⟨by simpa [DL.signs, Str.length] using hl, ?_⟩
            refine compL_each (fun c : Nat => PyData.str ⟨#[c]⟩) (fun c => .bool (inS c SM || inS c FG)) (c :: cs) (fun x hx C cq => ?_) ?_
            · walk_at "dlx"
              refine ⟨rfl, ?_⟩
              rw [show (#[x] : Array Nat).getD 0 0 = x from rfl]
              cases hx1 : decide (x ∈ (Str.ofString "abcdefghijklmnopqrstuvwxyz").cps.toList) with
              | true =>
                rw [show inS x SM = true from hx1] at cq
                exact cq
              | false =>
                rw [show inS x SM = false from hx1] at cq
                exact ⟨rfl, cq⟩
            · have := asBools_map ((c :: cs).map fun c => inS c SM || inS c FG)
              rw [List.map_map] at this
              rw [show ((c :: cs).map fun c => PyData.bool (inS c SM || inS c FG)) = (c :: cs).map (PyData.bool ∘ fun c => inS c SM || inS c FG) from rfl, this]
              rw [e3, Bool.true_and] at q
              simpa [List.all_map, Function.comp_def] using q
      · simp only [decide_eq_false h8, Bool.not_false, if_true]
        have e : nameD (.str z) = false := by
          have e2 : decide (z.length ≤ 8) = false := decide_eq_false (by omega)
          simp only [nameD, nameS, e2, Bool.and_false, Bool.false_and]
        rw [e] at q
        exact q
    · rw [decide_eq_false h0]
      have e : nameD (.str z) = false := by
        have e2 : decide (0 < z.length) = false := decide_eq_false (by omega)
        simp only [nameD, nameS, e2, Bool.false_and]
      rw [e] at q
      exact q
  | _ => walk_at "dlx"; simpa [nameD] using q
end
end K02

namespace K02
open PySem PySem.Spec PyProof.Rows L2 DL
local macro_rules | `(tactic| walk_at "dlx") => `(tactic| simp only [↓reduceIte, ↓DL.isNon, ↓DL.wNever, ↓DL.wSeq, ↓DL.wIf, ↓DL.wOr, ↓DL.wAnd, ↓DL.wNot, ↓DL.wB, ↓DL.wIsi, ↓DL.wVar, ↓DL.wC, ↓DL.wBin, ↓DL.wUn, ↓DL.wChain, ↓DL.wAndV, ↓DL.wOrV, ↓DL.wNotV, ↓DL.wRet, ↓DL.wRetN, ↓DL.wSkip, ↓DL.wCB, ↓DL.wCons, ↓DL.wNil, ↓DL.wCall, ↓DL.wSet, ↓DL.wFrz, ↓DL.frz, ↓DL.rho0, ↓DL.wLst, ↓DL.wTup, ↓DL.wComp, ↓DL.wiAny, ↓DL.walk, ↓DL.wSl, ↓DL.woNone, ↓DL.woSome, ↓DL.wIfE, ↓DL.RV.slot, ↓DL.RV.rd, ↓DL.RV.fr, ↓DL.RV.isFz, ↓DL.RV.un, ↓DL.RV.arg, ↓DL.RV.ret, ↓DL.RV.ev, ↓DL.EV.rv, ↓DL.o1, ↓DL.oLen, ↓DL.oAll, ↓DL.oAny, ↓DL.oIx, ↓DL.oCut, ↓DL.oEq, ↓DL.oIn, ↓DL.oOrd, ↓DL.oLt, ↓DL.oLe, ↓DL.oGt, ↓DL.oGe, ↓DL.oIs, ↓DL.oAdd, ↓DL.oSub, ↓DL.oInt, ↓DL.oMul, ↓DL.oMod, ↓DL.oDiv, ↓DL.oPow, ↓DL.oNeg, ↓DL.oRepr, ↓DL.oTuple, ↓DL.oList, ↓DL.oIntOf, ↓DL.oStrOf, ↓DL.oMax2, ↓DL.wgN, ↓DL.wiRng1, ↓DL.wiRng2, ↓DL.wiZip, ↓DL.wgTup, ↓DL.wgCons, ↓DL.wgNil, ↓DL.wIfE, ↓DL.wDict1, ↓DL.wDget, ↓DL.wiKeys, ↓DL.oDictOf, ↓DL.wCallK, ↓DL.pick, ↓DL.wipeR, ↓DL.oLenS, ↓DL.oIxS, ↓DL.wGix, ↓DL.wGset, ↓DL.wBits, ↓DL.wFor, ↓DL.oCutS, ↓DL.wApp, ↓DL.wJoin, ↓DL.wDrop, ↓DL.wPass, ↓DL.wRev,
  List.getElem?_cons_zero, List.getElem?_cons_succ, List.map_cons, List.map_nil, List.length_cons, List.length_nil, List.replicate, List.cons_append, List.nil_append, List.append_nil, List.all_cons, List.all_nil, List.set_cons_zero, List.set_cons_succ, List.set_nil,
  Bool.and_true, Bool.true_and, if_true, if_false, Bool.false_eq_true, Bool.not_true, Bool.not_false, true_and, and_true, ↓DL.isOf])
section
variable {P : Program} {w : World} {K : PySem.W.Frag} {mg : Str → Option Value} {base : Heap}
def strAt (ss : List Str) (i : Nat) : List Nat := (ss.getD i ⟨#[]⟩).cps.toList
def riseS (ss : List Str) : Bool := (List.range (ss.length - 1)).all fun i => decide (strAt ss i < strAt ss (i + 1))
def cRising : Ct := fun rs n Q => ∃ ss : List Str, rs = [.fz (.list (ss.map PyData.str))] ∧ ss.length ≤ sizeLine ∧ Q (.fz (.bool (riseS ss))) n
theorem strs_at {ss : List Str} {i : Int} {j : Nat} (e : i = j) (h : j < ss.length) : atI (ss.map PyData.str) i = some (.str (ss.getD j ⟨#[]⟩)) := by
  rw [atI_nat e (by rw [List.length_map]; exact h), List.getElem_map, List.getD_eq_getElem?_getD, List.getElem?_eq_getElem h]
  rfl
theorem span1 (k : Nat) : span 1 k = (List.range k).map fun i : Nat => PyData.int (1 + (i : Int)) := rfl
theorem ok_is_rising (T : Txt K mg) : FnG P w K mg base CX0 1 T.a_is_rising T.fd_is_rising ["items"] (liftSp K Gk cRising) := by
  refine fn_ok (k := 0) T.F_is_rising sc_is_rising (fun rs n Q ⟨d, e, _⟩ => by rw [e]; rfl) (fun cdv A outer s H E g B F0 hgd hr => (pds_one (pds_ret (pd_callB (cd_all rfl) (by rfl) T.z_all (by decide +kernel) (pda_cons (pd_lc (own := [("at", 1)]) rfl sc_is_rising.nd (pdi_range2 (by rfl) T.z_range pd_int (pd_callB cd_len (by rfl) T.z_len (by decide +kernel) (pda_cons (pd_var (pv 0)) pda_nil))) (blkOk_by (N := ["items", "at"]) (sc := defScope s_is_rising) (by decide +kernel)) (by decide) (fun _ _ _ _ _ => (pdg_name (pg_name (i := 1) sc_is_rising.nd rfl (by first | exact Or.inl rfl | exact Or.inr rfl)))) (fun _ _ _ _ _ => pdts_nil) (fun _ _ _ _ _ => (pd_cmp od_lt (pd_ix id_ix (pd_var (pv 0)) (pd_bin od_sub (pd_var (pv 1)) pd_int) (fun _ _ => rfl)) (pd_ix id_ix (pd_var (pv 0)) (pd_var (pv 1)) (fun _ _ => rfl)) (by first | exact nomark _ | rfl)))) pda_nil))))) (fun rs n Q h _ => ?_)
  obtain ⟨ss, rfl, hl, q⟩ := h
  walk_at "dlx"
  rw [List.length_map]
  have hs := sizeLine_eq
  refine ⟨by omega, by simp [DL.span]; omega, ?_⟩
  have e1 : ((ss.length : Int) - 1).toNat = ss.length - 1 := by omega
  rw [e1, span1]
  refine compL_each (fun i : Nat => PyData.int (1 + (i : Int))) (fun i => .bool (decide (strAt ss i < strAt ss (i + 1)))) _ (fun i hi C cq => ?_) ?_
  · have hi' := List.mem_range.mp hi
    walk_at "dlx"
    rw [strs_at (j := i) (by omega) (by omega), strs_at (j := i + 1) (by omega) (by omega)]
    exact cq
  · have := asBools_map ((List.range (ss.length - 1)).map fun i => decide (strAt ss i < strAt ss (i + 1)))
    rw [List.map_map] at this
    rw [show ((List.range (ss.length - 1)).map fun i => PyData.bool (decide (strAt ss i < strAt ss (i + 1)))) = (List.range (ss.length - 1)).map (PyData.bool ∘ fun i => decide (strAt ss i < strAt ss (i + 1))) from rfl, this]
    unfold riseS at q
    simpa [List.all_map, Function.comp_def] using q
def riseD (ds : List D) : Bool := match asStrs ds with
  | some ss => riseS ss
  | none => false
def placesD : D → Bool
  | .list ds => ds.all nameD && riseD ds
  | _ => false
def okL (d : D) : Prop := ∀ ds, d = .list ds → ds.length ≤ sizeLine ∧ ∀ e ∈ ds, okT e
theorem names_strs : ∀ {ds : List D}, ds.all nameD = true → ∃ ss : List Str, ds = ss.map PyData.str
  | [], _ => ⟨[], rfl⟩
  | d :: ds, h => by
    rw [List.all_cons, Bool.and_eq_true] at h
    obtain ⟨ss, e⟩ := names_strs h.2
    cases d with
    | str z => exact ⟨z :: ss, by rw [e]; rfl⟩
    | _ => exact absurd h.1 Bool.false_ne_true
def cPlaces : Ct := fun rs n Q => ∃ d, rs = [.fz d] ∧ okL d ∧ Q (.fz (.bool (placesD d))) n
theorem ok_is_places (T : Txt K mg) : FnG P w K mg base CX0 2 T.a_is_places T.fd_is_places ["value"] (liftSp K Gk cPlaces) := by
  have h_is_name := fun {P w base} => ok_is_name (P := P) (w := w) (base := base) T
  have h_is_rising := fun {P w base} => ok_is_rising (P := P) (w := w) (base := base) T
  refine fn_ok (k := 1) T.F_is_places sc_is_places (fun rs n Q ⟨d, e, _⟩ => by rw [e]; rfl) (fun cdv A outer s H E g B F0 hgd hr => (pds_one (pds_ret (pd_and (pd_isi .list (by rfl) T.z_isinstance (by rfl) T.z_list (by decide +kernel) (pd_var (pv 0))) (pd_and (pd_callB (cd_all rfl) (by rfl) T.z_all (by decide +kernel) (pda_cons (pd_lc (own := [("name", 1)]) rfl sc_is_places.nd (pdi_any (pd_var (pv 0))) (blkOk_by (N := ["value", "name"]) (sc := defScope s_is_places) (by decide +kernel)) (by decide) (fun _ _ _ _ _ => (pdg_name (pg_name (i := 1) sc_is_places.nd rfl (by first | exact Or.inl rfl | exact Or.inr rfl)))) (fun _ _ _ _ _ => pdts_nil) (fun _ _ _ _ _ => (pd_call h_is_name hgd (hr.mono (by decide)) (by rfl) T.g_is_name T.F_is_name.kp T.b_is_name pass0 (pda_cons (pd_var (pv 1)) pda_nil)))) pda_nil)) (pd_one (pd_call h_is_rising hgd (hr.mono (by decide)) (by rfl) T.g_is_rising T.F_is_rising.kp T.b_is_rising pass0 (pda_cons (pd_var (pv 0)) pda_nil)))))))) (fun rs n Q h _ => ?_)
  obtain ⟨d, rfl, hz, q⟩ := h
  cases d with
  | list ds =>
    obtain ⟨h1, h2⟩ := hz ds rfl
    walk_at "dlx"
    refine ⟨h1, ?_⟩
    rw [← List.map_id ds]
    refine compL_each (fun d => d) (fun d => .bool (nameD d)) ds (fun d hd C cq => ?_) ?_
    · walk_at "dlx"
      exact ⟨d, rfl, h2 d hd, cq⟩
    · have := asBools_map (ds.map nameD)
      rw [List.map_map] at this
      rw [show (ds.map fun d => PyData.bool (nameD d)) = ds.map (PyData.bool ∘ nameD) from rfl, this]
      cases ha : ds.all nameD with
      | true =>
        have e : (ds.map nameD).all id = true := by simpa [List.all_map, Function.comp_def] using ha
        dsimp only
        rw [e]
        obtain ⟨ss, es⟩ := names_strs ha
        refine ⟨rfl, ss, by rw [← es, List.map_id], by rw [es, List.length_map] at h1; exact h1, ?_⟩
        have e2 : placesD (.list ds) = riseS ss := by
          simp only [placesD, ha, Bool.true_and, riseD]
          rw [es, asStrs_map]
        rw [e2] at q
        exact q
      | false =>
        have e : (ds.map nameD).all id = false := by simpa [List.all_map, Function.comp_def] using ha
        dsimp only
        rw [e]
        have e2 : placesD (.list ds) = false := by simp only [placesD, ha, Bool.false_and]
        rw [e2] at q
        exact q
  | _ => walk_at "dlx"; simpa [placesD] using q
def baseD : D → Bool
  | .int i => decide (2 ≤ i) && decide (i ≤ 10)
  | _ => false
def cBase : Ct := fun rs n Q => ∃ d, rs = [.fz d] ∧ Q (.fz (.bool (baseD d))) n
theorem ok_is_base (T : Txt K mg) : FnG P w K mg base CX0 2 T.a_is_base T.fd_is_base ["value"] (liftSp K Gk cBase) := by
  have h_is_whole := fun {P w base} => ok_is_whole (P := P) (w := w) (base := base) T
  refine fn_ok (k := 1) T.F_is_base sc_is_base (fun rs n Q ⟨d, e, _⟩ => by rw [e]; rfl) (fun cdv A outer s H E g B F0 hgd hr => (pds_one (pds_ret (pd_and (pd_call h_is_whole hgd (hr.mono (by decide)) (by rfl) T.g_is_whole T.F_is_whole.kp T.b_is_whole pass0 (pda_cons (pd_var (pv 0)) pda_nil)) (pd_one (pd_chain od_le od_le pd_int (pd_var (pv 0)) pd_int)))))) (fun rs n Q h _ => ?_)
  obtain ⟨d, rfl, q⟩ := h
  walk_at "dlx"
  refine ⟨d, rfl, ?_⟩
  cases d with
  | int i =>
    rw [show isWhole (.int i) = true from rfl]
    walk_at "dlx"
    by_cases h2 : 2 ≤ i
    · simp only [decide_eq_true h2]
      simpa [baseD, h2] using q
    · simp only [decide_eq_false h2]
      simpa [baseD, h2] using q
  | bool b => rw [show isWhole (.bool b) = false from rfl]; simpa [baseD] using q
  | _ => first | (rw [show isWhole .none = false from rfl]; exact q) | exact q
end
end K02

namespace K02
open PySem PySem.Spec PyProof.Rows L2 DL
local macro_rules | `(tactic| walk_at "dlx") => `(tactic| simp only [↓reduceIte, ↓DL.isNon, ↓DL.wNever, ↓DL.wSeq, ↓DL.wIf, ↓DL.wOr, ↓DL.wAnd, ↓DL.wNot, ↓DL.wB, ↓DL.wIsi, ↓DL.wVar, ↓DL.wC, ↓DL.wBin, ↓DL.wUn, ↓DL.wChain, ↓DL.wAndV, ↓DL.wOrV, ↓DL.wNotV, ↓DL.wRet, ↓DL.wRetN, ↓DL.wSkip, ↓DL.wCB, ↓DL.wCons, ↓DL.wNil, ↓DL.wCall, ↓DL.wSet, ↓DL.wFrz, ↓DL.frz, ↓DL.rho0, ↓DL.wLst, ↓DL.wTup, ↓DL.wComp, ↓DL.wiAny, ↓DL.walk, ↓DL.wSl, ↓DL.woNone, ↓DL.woSome, ↓DL.wIfE, ↓DL.RV.slot, ↓DL.RV.rd, ↓DL.RV.fr, ↓DL.RV.isFz, ↓DL.RV.un, ↓DL.RV.arg, ↓DL.RV.ret, ↓DL.RV.ev, ↓DL.EV.rv, ↓DL.o1, ↓DL.oLen, ↓DL.oAll, ↓DL.oAny, ↓DL.oIx, ↓DL.oCut, ↓DL.oEq, ↓DL.oIn, ↓DL.oOrd, ↓DL.oLt, ↓DL.oLe, ↓DL.oGt, ↓DL.oGe, ↓DL.oIs, ↓DL.oAdd, ↓DL.oSub, ↓DL.oInt, ↓DL.oMul, ↓DL.oMod, ↓DL.oDiv, ↓DL.oPow, ↓DL.oNeg, ↓DL.oRepr, ↓DL.oTuple, ↓DL.oList, ↓DL.oIntOf, ↓DL.oStrOf, ↓DL.oMax2, ↓DL.wgN, ↓DL.wiRng1, ↓DL.wiRng2, ↓DL.wiZip, ↓DL.wgTup, ↓DL.wgCons, ↓DL.wgNil, ↓DL.wIfE, ↓DL.wDict1, ↓DL.wDget, ↓DL.wiKeys, ↓DL.oDictOf, ↓DL.wCallK, ↓DL.pick, ↓DL.wipeR, ↓DL.oLenS, ↓DL.oIxS, ↓DL.wGix, ↓DL.wGset, ↓DL.wBits, ↓DL.wFor, ↓DL.oCutS, ↓DL.wApp, ↓DL.wJoin, ↓DL.wDrop, ↓DL.wPass, ↓DL.wRev,
  List.getElem?_cons_zero, List.getElem?_cons_succ, List.map_cons, List.map_nil, List.length_cons, List.length_nil, List.replicate, List.cons_append, List.nil_append, List.append_nil, List.all_cons, List.all_nil, List.set_cons_zero, List.set_cons_succ, List.set_nil,
  Bool.and_true, Bool.true_and, if_true, if_false, Bool.false_eq_true, Bool.not_true, Bool.not_false, true_and, and_true, ↓DL.isOf])
section
variable {P : Program} {w : World} {K : PySem.W.Frag} {mg : Str → Option Value} {base : Heap}
theorem ok_law_rise (T : Txt K mg) : FnG P w K mg base CX0 1 T.a__law_rise T.fd__law_rise ["items"] (liftSp K Gk cRising) := by
  refine fn_ok (k := 0) T.F__law_rise sc__law_rise (fun rs n Q ⟨d, e, _⟩ => by rw [e]; rfl) (fun cdv A outer s H E g B F0 hgd hr => (pds_one (pds_ret (pd_cmp (od_eq hr.units) (pd_lc (own := [("at", 1)]) rfl sc__law_rise.nd (pdi_range2 (by rfl) T.z_range pd_int (pd_callB cd_len (by rfl) T.z_len (by decide +kernel) (pda_cons (pd_var (pv 0)) pda_nil))) (blkOk_by (N := ["items", "at"]) (sc := defScope s__law_rise) (by decide +kernel)) (by decide) (fun _ _ _ _ _ => (pdg_name (pg_name (i := 1) sc__law_rise.nd rfl (by first | exact Or.inl rfl | exact Or.inr rfl)))) (fun _ _ _ _ _ => (pdts_one (pdt_cmp od_ge (pd_ix id_ix (pd_var (pv 0)) (pd_bin od_sub (pd_var (pv 1)) pd_int) (fun _ _ => rfl)) (pd_ix id_ix (pd_var (pv 0)) (pd_var (pv 1)) (fun _ _ => rfl)) (by first | exact nomark _ | rfl)))) (fun _ _ _ _ _ => (pd_var (pv 1)))) (pd_lst pda_nil) (by first | exact nomark _ | rfl))))) (fun rs n Q h _ => ?_)
  obtain ⟨ss, rfl, hl, q⟩ := h
  walk_at "dlx"
  rw [List.length_map]
  have hs := sizeLine_eq
  refine ⟨by omega, by simp [DL.span]; omega, ?_⟩
  have e1 : ((ss.length : Int) - 1).toNat = ss.length - 1 := by omega
  rw [e1, span1]
  refine compL_filter (fun i : Nat => PyData.int (1 + (i : Int))) (fun i => !(decide (strAt ss i < strAt ss (i + 1)))) _ (fun i hi C C0 cq => ?_) ?_
  · have hi' := List.mem_range.mp hi
    walk_at "dlx"
    rw [strs_at (j := i) (by omega) (by omega), strs_at (j := i + 1) (by omega) (by omega)]
    exact cq
  · refine ⟨rfl, Nat.zero_le _, ?_, shaped_nil, ?_⟩
    · show SeqAt.shaped (.list ((List.filter _ _).map _)) = true
      rw [show ∀ L : List Nat, (L.map fun i : Nat => PyData.int (1 + (i : Int))) = (L.map fun i : Nat => (1 + (i : Int))).map PyData.int from fun L => by rw [List.map_map]; rfl]
      exact shaped_ints _
    · walk_at "dlx"
      rw [eqv_nil, List.isEmpty_map, filter_empty]
      exact q
theorem abc_eq : (Str.ofString "abcdefghijklmnopqrstuvwxyz0123456789").cps.toList = SM.cps.toList ++ FG.cps.toList := by decide +kernel
theorem in_abc (c : Nat) : decide (c ∈ (Str.ofString "abcdefghijklmnopqrstuvwxyz0123456789").cps.toList) = (inS c SM || inS c FG) := by
  rw [abc_eq]
  unfold inS
  rw [Bool.eq_iff_iff]
  simp [List.mem_append]
theorem strOk_mem {z : Str} {c : Nat} (h : PyData.strOk z = true) (hc : c ∈ z.cps.toList) : PyData.strOk ⟨#[c]⟩ = true := by
  unfold PyData.strOk at h ⊢
  rw [Array.all_eq_true'] at h
  have := h c (by simpa using hc)
  simpa using this
theorem ok_law_name (T : Txt K mg) : FnG P w K mg base CX0 1 T.a__law_name T.fd__law_name ["value"] (liftSp K Gk cName) := by
  refine fn_ok (k := 0) T.F__law_name sc__law_name (fun rs n Q ⟨d, e, _⟩ => by rw [e]; rfl) (fun cdv A outer s H E g B F0 hgd hr => (pds_cons (pds_if (PW.pt (pdw_or (pdt_not (pdt_val (pd_isi .str (by rfl) T.z_isinstance (by rfl) T.z_str (by decide +kernel) (pd_var (pv 0))))) (pdw_or (pdt_cmp od_gt (pd_callB cd_len (by rfl) T.z_len (by decide +kernel) (pda_cons (pd_var (pv 0)) pda_nil)) pd_int (by first | exact nomark _ | rfl)) (pdw_or1 (pdt_cmp (od_notin (hu65 hr)) (pd_slice sd_cut (pd_var (pv 0)) pdo_none (pdo_some pd_int)) (pd_callTy (cd_list rfl) (by rfl) T.z_list (by decide +kernel) (pda_cons pd_str pda_nil)) (by first | exact nomark _ | rfl)))))) (pds_one (pds_ret pd_bl)) pds_nil)
      (pds_one (pds_ret (pd_cmp (od_eq hr.units) (pd_lc (own := [("sign", 1)]) rfl sc__law_name.nd (pdi_any (pd_var (pv 0))) (blkOk_by (N := ["value", "sign"]) (sc := defScope s__law_name) (by decide +kernel)) (by decide) (fun _ _ _ _ _ => (pdg_name (pg_name (i := 1) sc__law_name.nd rfl (by first | exact Or.inl rfl | exact Or.inr rfl)))) (fun _ _ _ _ _ => (pdts_one (pdt_cmp (od_notin (hu65 hr)) (pd_var (pv 1)) pd_str (by first | exact nomark _ | rfl)))) (fun _ _ _ _ _ => (pd_var (pv 1)))) (pd_lst pda_nil) (by first | exact nomark _ | rfl)))))) (fun rs n Q h _ => ?_)
  obtain ⟨d, rfl, hz, q⟩ := h
  cases d with
  | str z =>
    have hl := (hz z rfl).1
    have ho := (hz z rfl).2
    walk_at "dlx"
    refine ⟨hl, ?_⟩
    by_cases h8 : 8 < (z.length : Int)
    · rw [if_pos (decide_eq_true h8)]
      have e2 : decide (z.length ≤ 8) = false := decide_eq_false (by omega)
      have e : nameD (.str z) = false := by simp only [nameD, nameS, e2, Bool.and_false, Bool.false_and]
      rw [e] at q
      exact q
    · rw [if_neg (by rw [decide_eq_true_eq]; exact h8)]
      refine ⟨hl, by decide +kernel, ?_⟩
      obtain ⟨⟨cs⟩⟩ := z
      cases cs with
      | nil =>
        rw [show cutS ⟨⟨[]⟩⟩ none (some 1) = ⟨#[]⟩ from rfl]
        refine ⟨shaped_str (by simp [PyData.strOk]), by decide +kernel, ?_⟩
        rw [show DL.signs (Str.ofString "abcdefghijklmnopqrstuvwxyz") = (Str.ofString "abcdefghijklmnopqrstuvwxyz").cps.toList.map fun c => PyData.str ⟨#[c]⟩ from rfl, any_sign0]
        exact q
      | cons c cs =>
        have ec : cutS ⟨⟨c :: cs⟩⟩ none (some 1) = ⟨#[c]⟩ := by
          unfold cutS
          have e1 : HT.sIx (Str.mk ⟨c :: cs⟩).length (Str.mk ⟨c :: cs⟩).length (some 1) = 1 := by
            have := HT.sIx_nat (Str.mk ⟨c :: cs⟩).length (Str.mk ⟨c :: cs⟩).length 1
            rw [show ((1 : Nat) : Int) = 1 from rfl] at this
            rw [this]
            simp [Str.length]
          rw [e1, HT.sIx_none]
          simp
        rw [ec]
        refine ⟨shaped_str (strOk_mem ho (by simp)), by decide +kernel, ?_⟩
        rw [show DL.signs (Str.ofString "abcdefghijklmnopqrstuvwxyz") = (Str.ofString "abcdefghijklmnopqrstuvwxyz").cps.toList.map fun c => PyData.str ⟨#[c]⟩ from rfl, any_sign]
        have eN : nameD (.str ⟨⟨c :: cs⟩⟩) = (inS c SM && (c :: cs).all fun c => inS c SM || inS c FG) := by
          have e1 : decide (0 < (Str.mk ⟨c :: cs⟩).length) = true := decide_eq_true (by simp [Str.length])
          have e2 : decide ((Str.mk ⟨c :: cs⟩).length ≤ 8) = true := decide_eq_true (by simp [Str.length] at h8 ⊢; omega)
          simp only [nameD, nameS, e1, e2, Bool.true_and]
          rfl
        rw [eN] at q
        rw [show decide (c ∈ (Str.ofString "abcdefghijklmnopqrstuvwxyz").cps.toList) = inS c SM from rfl]
        cases e3 : inS c SM with
        | false =>
          simp only [Bool.not_false, if_true]
          simpa [e3] using q
        | true =>
          simp only [Bool.not_true, if_false, Bool.false_eq_true]
          refine ⟨by simpa [DL.signs, Str.length] using hl, ?_⟩
          refine compL_filter (fun c : Nat => PyData.str ⟨#[c]⟩) (fun c => !(inS c SM || inS c FG)) (c :: cs) (fun x hx C C0 cq => ?_) ?_
          · walk_at "dlx"
            rw [show (#[x] : Array Nat).getD 0 0 = x from rfl, in_abc]
            refine ⟨rfl, ?_⟩
            cases hh : (inS x SM || inS x FG) <;> (rw [hh] at cq; exact cq)
          · refine ⟨rfl, Nat.zero_le _, ?_, shaped_nil, ?_⟩
            · refine shaped_list (fun d hd => ?_) (fun d hd => ?_) <;> (obtain ⟨i, hi, rfl⟩ := List.mem_map.mp hd)
              · exact shaped_str (strOk_mem ho (by simpa using (List.mem_filter.mp hi).1))
              · simp [PyData.depth]
            · walk_at "dlx"
              rw [eqv_nil, List.isEmpty_map, filter_empty]
              rw [e3, Bool.true_and] at q
              exact q
  | _ => walk_at "dlx"; simpa [nameD] using q
end
end K02

namespace K02
open PySem PySem.Spec PyProof.Rows L2 DL
local macro_rules | `(tactic| walk_at "dlx") => `(tactic| simp only [↓reduceIte, ↓DL.isNon, ↓DL.wNever, ↓DL.wSeq, ↓DL.wIf, ↓DL.wOr, ↓DL.wAnd, ↓DL.wNot, ↓DL.wB, ↓DL.wIsi, ↓DL.wVar, ↓DL.wC, ↓DL.wBin, ↓DL.wUn, ↓DL.wChain, ↓DL.wAndV, ↓DL.wOrV, ↓DL.wNotV, ↓DL.wRet, ↓DL.wRetN, ↓DL.wSkip, ↓DL.wCB, ↓DL.wCons, ↓DL.wNil, ↓DL.wCall, ↓DL.wSet, ↓DL.wFrz, ↓DL.frz, ↓DL.rho0, ↓DL.wLst, ↓DL.wTup, ↓DL.wComp, ↓DL.wiAny, ↓DL.walk, ↓DL.wSl, ↓DL.woNone, ↓DL.woSome, ↓DL.wIfE, ↓DL.RV.slot, ↓DL.RV.rd, ↓DL.RV.fr, ↓DL.RV.isFz, ↓DL.RV.un, ↓DL.RV.arg, ↓DL.RV.ret, ↓DL.RV.ev, ↓DL.EV.rv, ↓DL.o1, ↓DL.oLen, ↓DL.oAll, ↓DL.oAny, ↓DL.oIx, ↓DL.oCut, ↓DL.oEq, ↓DL.oIn, ↓DL.oOrd, ↓DL.oLt, ↓DL.oLe, ↓DL.oGt, ↓DL.oGe, ↓DL.oIs, ↓DL.oAdd, ↓DL.oSub, ↓DL.oInt, ↓DL.oMul, ↓DL.oMod, ↓DL.oDiv, ↓DL.oPow, ↓DL.oNeg, ↓DL.oRepr, ↓DL.oTuple, ↓DL.oList, ↓DL.oIntOf, ↓DL.oStrOf, ↓DL.oMax2, ↓DL.wgN, ↓DL.wiRng1, ↓DL.wiRng2, ↓DL.wiZip, ↓DL.wgTup, ↓DL.wgCons, ↓DL.wgNil, ↓DL.wIfE, ↓DL.wDict1, ↓DL.wDget, ↓DL.wiKeys, ↓DL.oDictOf, ↓DL.wCallK, ↓DL.pick, ↓DL.wipeR, ↓DL.oLenS, ↓DL.oIxS, ↓DL.wGix, ↓DL.wGset, ↓DL.wBits, ↓DL.wFor, ↓DL.oCutS, ↓DL.wApp, ↓DL.wJoin, ↓DL.wDrop, ↓DL.wPass, ↓DL.wRev,
  List.getElem?_cons_zero, List.getElem?_cons_succ, List.map_cons, List.map_nil, List.length_cons, List.length_nil, List.replicate, List.cons_append, List.nil_append, List.append_nil, List.all_cons, List.all_nil, List.set_cons_zero, List.set_cons_succ, List.set_nil,
  Bool.and_true, Bool.true_and, if_true, if_false, Bool.false_eq_true, Bool.not_true, Bool.not_false, true_and, and_true, ↓DL.isOf])
section
variable {P : Program} {w : World} {K : PySem.W.Frag} {mg : Str → Option Value} {base : Heap}
def cExactB : Ct := fun rs n Q => ∃ a b : Bool, rs = [.fz (.bool a), .fz (.bool b)] ∧ Q (.fz (.bool (a == b))) n
theorem ok_law_exactB (T : Txt K mg) : FnG P w K mg base CX0 1 T.a__law_exact T.fd__law_exact ["told", "due"] (liftSp K Gk cExactB) := by
  have h__law_exact : ∀ {P w base}, FnG P w K mg base CX0 0 T.a__law_exact T.fd__law_exact ["told", "due"] (liftSp K Gk fun _ _ _ => False) := fun {P w base} => ⟨fun vs H Q E ⟨_, _, _, _, _, _, _, _, h, _⟩ => h.elim, fun A outer s H args us vs Q E _ _ _ _ _ ⟨_, _, _, _, _, _, _, _, h, _⟩ => h.elim⟩
  refine fn_ok (k := 0) T.F__law_exact sc__law_exact (fun rs n Q ⟨d, b, e, _⟩ => by rw [e]; rfl) (fun cdv A outer s H E g B F0 hgd hr => (pds_cons (pds_if (pdt_val (pd_isi .dict (by rfl) T.z_isinstance (by rfl) T.z_dict (by decide +kernel) (pd_var (pv 1)))) pdss_never pds_nil)
      (pds_cons (pds_if (pdt_val (pd_isi .list (by rfl) T.z_isinstance (by rfl) T.z_list (by decide +kernel) (pd_var (pv 1)))) (pds_one (pds_ret (pd_and (pd_isi .list (by rfl) T.z_isinstance (by rfl) T.z_list (by decide +kernel) (pd_var (pv 0))) (pd_and (pd_cmp (od_eq hr.units) (pd_callB cd_len (by rfl) T.z_len (by decide +kernel) (pda_cons (pd_var (pv 0)) pda_nil)) (pd_callB cd_len (by rfl) T.z_len (by decide +kernel) (pda_cons (pd_var (pv 1)) pda_nil)) (by first | exact nomark _ | rfl)) (pd_one (pd_cmp (od_notin (hu65 hr)) pd_bl (pd_lc (own := [("one", 3), ("other", 4)]) rfl sc__law_exact.nd (pdi_zip (by rfl) T.z_zip (pd_var (pv 0)) (pd_var (pv 1))) (blkOk_by (N := ["told", "due", "key", "one", "other"]) (sc := defScope s__law_exact) (by decide +kernel)) (by decide) (fun _ _ _ _ _ => (pdg_tup (n := 2) rfl (pdgs_cons (pdg_name (pg_name (i := 3) sc__law_exact.nd rfl (by first | exact Or.inl rfl | exact Or.inr rfl))) (pdgs_cons (pdg_name (pg_name (i := 4) sc__law_exact.nd rfl (by first | exact Or.inl rfl | exact Or.inr rfl))) pdgs_nil)))) (fun _ _ _ _ _ => pdts_nil) (fun _ _ _ _ _ => (pd_call h__law_exact hgd (hr.mono (by decide)) (by rfl) T.g__law_exact T.F__law_exact.kp T.b__law_exact pass0 (pda_cons (pd_var (pv 3)) (pda_cons (pd_var (pv 4)) pda_nil))))) (by first | exact nomark _ | rfl))))))) pds_nil)
      (pds_cons (pds_if (pdt_val (pd_isi .tuple (by rfl) T.z_isinstance (by rfl) T.z_tuple (by decide +kernel) (pd_var (pv 1)))) pdss_never pds_nil)
      (pds_cons (pds_if (pdt_cmp od_is (pd_var (pv 1)) pd_non (by first | exact nomark _ | rfl)) (pds_one (pds_ret (pd_cmp od_is (pd_var (pv 0)) pd_non (by first | exact nomark _ | rfl)))) pds_nil)
      (pds_cons (pds_if (pdt_cmp od_is (pd_var (pv 1)) pd_bl (by first | exact nomark _ | rfl)) (pds_one (pds_ret (pd_cmp od_is (pd_var (pv 0)) pd_bl (by first | exact nomark _ | rfl)))) pds_nil)
      (pds_cons (pds_if (pdt_cmp od_is (pd_var (pv 1)) pd_bl (by first | exact nomark _ | rfl)) (pds_one (pds_ret (pd_cmp od_is (pd_var (pv 0)) pd_bl (by first | exact nomark _ | rfl)))) pds_nil)
      (pds_cons (pds_if (pdt_val (pd_isi .int (by rfl) T.z_isinstance (by rfl) T.z_int (by decide +kernel) (pd_var (pv 1)))) (pds_one (pds_ret (pd_and (pd_isi .int (by rfl) T.z_isinstance (by rfl) T.z_int (by decide +kernel) (pd_var (pv 0))) (pd_and (pd_not (pd_isi .bool (by rfl) T.z_isinstance (by rfl) T.z_bool (by decide +kernel) (pd_var (pv 0)))) (pd_one (pd_cmp (od_eq hr.units) (pd_var (pv 0)) (pd_var (pv 1)) (by first | exact nomark _ | rfl))))))) pds_nil)
      (pds_one (pds_ret (pd_and (pd_isi .str (by rfl) T.z_isinstance (by rfl) T.z_str (by decide +kernel) (pd_var (pv 0))) (pd_one (pd_cmp (od_eq hr.units) (pd_var (pv 0)) (pd_var (pv 1)) (by first | exact nomark _ | rfl)))))))))))))) (fun rs n Q h _ => ?_)
  obtain ⟨a, b, rfl, q⟩ := h
  cases a <;> cases b <;> exact q
def cExactL : Ct := fun rs n Q => ∃ bs : List Bool, rs = [.fz (.list (bs.map PyData.bool)), .fz (.list (bs.map PyData.bool))] ∧ bs.length ≤ 100 ∧ Q (.fz (.bool true)) n
theorem pair_bools : ∀ bs : List Bool, paired (bs.map PyData.bool) (bs.map PyData.bool) = bs.map fun b => PyData.tuple [.bool b, .bool b]
  | [] => rfl
  | b :: bs => by
    have ih := pair_bools bs
    unfold paired at ih ⊢
    rw [List.map_cons, List.zipWith_cons_cons, ih]
    rfl
theorem ok_law_exactL (T : Txt K mg) : FnG P w K mg base CX0 2 T.a__law_exact T.fd__law_exact ["told", "due"] (liftSp K Gk cExactL) := by
  have h__law_exact := fun {P w base} => ok_law_exactB (P := P) (w := w) (base := base) T
  refine fn_ok (k := 1) T.F__law_exact sc__law_exact (fun rs n Q ⟨d, e, _⟩ => by rw [e]; rfl) (fun cdv A outer s H E g B F0 hgd hr => (pds_cons (pds_if (pdt_val (pd_isi .dict (by rfl) T.z_isinstance (by rfl) T.z_dict (by decide +kernel) (pd_var (pv 1)))) pdss_never pds_nil)
      (pds_cons (pds_if (pdt_val (pd_isi .list (by rfl) T.z_isinstance (by rfl) T.z_list (by decide +kernel) (pd_var (pv 1)))) (pds_one (pds_ret (pd_and (pd_isi .list (by rfl) T.z_isinstance (by rfl) T.z_list (by decide +kernel) (pd_var (pv 0))) (pd_and (pd_cmp (od_eq hr.units) (pd_callB cd_len (by rfl) T.z_len (by decide +kernel) (pda_cons (pd_var (pv 0)) pda_nil)) (pd_callB cd_len (by rfl) T.z_len (by decide +kernel) (pda_cons (pd_var (pv 1)) pda_nil)) (by first | exact nomark _ | rfl)) (pd_one (pd_cmp (od_notin (hu65 hr)) pd_bl (pd_lc (own := [("one", 3), ("other", 4)]) rfl sc__law_exact.nd (pdi_zip (by rfl) T.z_zip (pd_var (pv 0)) (pd_var (pv 1))) (blkOk_by (N := ["told", "due", "key", "one", "other"]) (sc := defScope s__law_exact) (by decide +kernel)) (by decide) (fun _ _ _ _ _ => (pdg_tup (n := 2) rfl (pdgs_cons (pdg_name (pg_name (i := 3) sc__law_exact.nd rfl (by first | exact Or.inl rfl | exact Or.inr rfl))) (pdgs_cons (pdg_name (pg_name (i := 4) sc__law_exact.nd rfl (by first | exact Or.inl rfl | exact Or.inr rfl))) pdgs_nil)))) (fun _ _ _ _ _ => pdts_nil) (fun _ _ _ _ _ => (pd_call h__law_exact hgd (hr.mono (by decide)) (by rfl) T.g__law_exact T.F__law_exact.kp T.b__law_exact pass0 (pda_cons (pd_var (pv 3)) (pda_cons (pd_var (pv 4)) pda_nil))))) (by first | exact nomark _ | rfl))))))) pds_nil)
      (pds_cons (pds_if (pdt_val (pd_isi .tuple (by rfl) T.z_isinstance (by rfl) T.z_tuple (by decide +kernel) (pd_var (pv 1)))) pdss_never pds_nil)
      (pds_cons (pds_if (pdt_cmp od_is (pd_var (pv 1)) pd_non (by first | exact nomark _ | rfl)) (pds_one (pds_ret (pd_cmp od_is (pd_var (pv 0)) pd_non (by first | exact nomark _ | rfl)))) pds_nil)
      (pds_cons (pds_if (pdt_cmp od_is (pd_var (pv 1)) pd_bl (by first | exact nomark _ | rfl)) (pds_one (pds_ret (pd_cmp od_is (pd_var (pv 0)) pd_bl (by first | exact nomark _ | rfl)))) pds_nil)
      (pds_cons (pds_if (pdt_cmp od_is (pd_var (pv 1)) pd_bl (by first | exact nomark _ | rfl)) (pds_one (pds_ret (pd_cmp od_is (pd_var (pv 0)) pd_bl (by first | exact nomark _ | rfl)))) pds_nil)
      (pds_cons (pds_if (pdt_val (pd_isi .int (by rfl) T.z_isinstance (by rfl) T.z_int (by decide +kernel) (pd_var (pv 1)))) (pds_one (pds_ret (pd_and (pd_isi .int (by rfl) T.z_isinstance (by rfl) T.z_int (by decide +kernel) (pd_var (pv 0))) (pd_and (pd_not (pd_isi .bool (by rfl) T.z_isinstance (by rfl) T.z_bool (by decide +kernel) (pd_var (pv 0)))) (pd_one (pd_cmp (od_eq hr.units) (pd_var (pv 0)) (pd_var (pv 1)) (by first | exact nomark _ | rfl))))))) pds_nil)
      (pds_one (pds_ret (pd_and (pd_isi .str (by rfl) T.z_isinstance (by rfl) T.z_str (by decide +kernel) (pd_var (pv 0))) (pd_one (pd_cmp (od_eq hr.units) (pd_var (pv 0)) (pd_var (pv 1)) (by first | exact nomark _ | rfl)))))))))))))) (fun rs n Q h _ => ?_)
  obtain ⟨bs, rfl, hl, q⟩ := h
  walk_at "dlx"
  refine ⟨shaped_int _, shaped_int _, ?_⟩
  rw [eqv_int, beq_self_eq_true]
  walk_at "dlx"
  have ep := pair_bools bs
  rw [ep]
  have hs := sizeLine_eq
  refine ⟨by rw [List.length_map]; omega, ?_⟩
  refine compL_each (fun b : Bool => PyData.tuple [.bool b, .bool b]) (fun b => .bool true) bs (fun b hb C cq => ?_) ?_
  · walk_at "dlx"
    refine ⟨b, b, rfl, ?_⟩
    rw [beq_self_eq_true]
    exact cq
  · rw [show (bs.map fun b => PyData.bool true) = (bs.map fun _ => true).map PyData.bool by rw [List.map_map]; rfl]
    refine ⟨shaped_bool _, shaped_bools _, ?_⟩
    walk_at "dlx"
    have e : (((bs.map fun _ => true).map PyData.bool).any fun z => z.eqv (PyData.bool false)) = false := by
      rw [List.any_eq_false]
      intro z hz
      simp only [List.mem_map] at hz
      obtain ⟨_, ⟨_, _, rfl⟩, rfl⟩ := hz
      decide
    rw [e]
    exact q
def lotsD : D → Bool
  | .list ds => ds.all nameD
  | _ => false
def okJ (d : D) : Prop := (reprOk d = true ∧ d.showable = true ∧ d.depth ≤ 100 ∧ d.shown.length ≤ sizeLine) ∧ okT d ∧ ∀ ds, d = .list ds → ds.length ≤ sizeLine ∧ SeqAt.shaped (.list ds) = true ∧ ∀ e ∈ ds, okT e
def cJudged : Ct := fun rs n Q => ∃ d, rs = [.fz d] ∧ okJ d ∧ Q (.fz (.bool true)) n
theorem ok_law_judged (T : Txt K mg) : FnG P w K mg base CX0 3 T.a__law_judged T.fd__law_judged ["value"] (liftSp K Gk cJudged) := by
  have h__law_exact := fun {P w base} => ok_law_exactL (P := P) (w := w) (base := base) T
  have h__law_name := fun {P w base} => ok_law_name (P := P) (w := w) (base := base) T
  have h__law_rise := fun {P w base} => ok_law_rise (P := P) (w := w) (base := base) T
  have h_is_name := fun {P w base} => ok_is_name (P := P) (w := w) (base := base) T
  have h_is_places := fun {P w base} => ok_is_places (P := P) (w := w) (base := base) T
  have h_is_base := fun {P w base} => ok_is_base (P := P) (w := w) (base := base) T
  refine fn_ok (k := 2) T.F__law_judged sc__law_judged (fun rs n Q ⟨d, e, _⟩ => by rw [e]; rfl) (fun cdv A outer s H E g B F0 hgd hr => (pds_cons (pds_set (i := 1) sc__law_judged.nd rfl (by first | exact Or.inl rfl | exact Or.inr rfl) (pd_callB (cd_repr hgd (hu101 hr)) (by rfl) T.z_repr (by decide +kernel) (pda_cons (pd_var (pv 0)) pda_nil)))
      (pds_cons (pds_set (i := 2) sc__law_judged.nd rfl (by first | exact Or.inl rfl | exact Or.inr rfl) (pd_and (pd_isi .list (by rfl) T.z_isinstance (by rfl) T.z_list (by decide +kernel) (pd_var (pv 0))) (pd_one (pd_cmp (od_eq hr.units) (pd_lc (own := [("item", 6)]) rfl sc__law_judged.nd (pdi_any (pd_var (pv 0))) (blkOk_by (N := ["value", "kept", "lots", "due", "told", "again", "item"]) (sc := defScope s__law_judged) (by decide +kernel)) (by decide) (fun _ _ _ _ _ => (pdg_name (pg_name (i := 6) sc__law_judged.nd rfl (by first | exact Or.inl rfl | exact Or.inr rfl)))) (fun _ _ _ _ _ => (pdts_one (pdt_not (pdt_val (pd_call h__law_name hgd (hr.mono (by decide)) (by rfl) T.g__law_name T.F__law_name.kp T.b__law_name pass0 (pda_cons (pd_var (pv 6)) pda_nil)))))) (fun _ _ _ _ _ => (pd_var (pv 6)))) (pd_lst pda_nil) (by first | exact nomark _ | rfl)))))
      (pds_cons (pds_set (i := 3) sc__law_judged.nd rfl (by first | exact Or.inl rfl | exact Or.inr rfl) (pd_lst (pda_cons (pd_call h__law_name hgd (hr.mono (by decide)) (by rfl) T.g__law_name T.F__law_name.kp T.b__law_name pass0 (pda_cons (pd_var (pv 0)) pda_nil)) (pda_cons (pd_and (pd_var (pv 2)) (pd_one (pd_call h__law_rise hgd (hr.mono (by decide)) (by rfl) T.g__law_rise T.F__law_rise.kp T.b__law_rise pass0 (pda_cons (pd_var (pv 0)) pda_nil)))) (pda_cons (pd_and (pd_isi .int (by rfl) T.z_isinstance (by rfl) T.z_int (by decide +kernel) (pd_var (pv 0))) (pd_and (pd_not (pd_isi .bool (by rfl) T.z_isinstance (by rfl) T.z_bool (by decide +kernel) (pd_var (pv 0)))) (pd_one (pd_chain od_lt od_lt pd_int (pd_var (pv 0)) pd_int)))) pda_nil)))))
      (pds_cons (pds_set (i := 4) sc__law_judged.nd rfl (by first | exact Or.inl rfl | exact Or.inr rfl) (pd_lst (pda_cons (pd_call h_is_name hgd (hr.mono (by decide)) (by rfl) T.g_is_name T.F_is_name.kp T.b_is_name pass0 (pda_cons (pd_var (pv 0)) pda_nil)) (pda_cons (pd_call h_is_places hgd (hr.mono (by decide)) (by rfl) T.g_is_places T.F_is_places.kp T.b_is_places pass0 (pda_cons (pd_var (pv 0)) pda_nil)) (pda_cons (pd_call h_is_base hgd (hr.mono (by decide)) (by rfl) T.g_is_base T.F_is_base.kp T.b_is_base pass0 (pda_cons (pd_var (pv 0)) pda_nil)) pda_nil)))))
      (pds_cons (pds_set (i := 5) sc__law_judged.nd rfl (by first | exact Or.inl rfl | exact Or.inr rfl) (pd_lst (pda_cons (pd_callK h_is_name hgd (hr.mono (by decide)) (by rfl) T.g_is_name T.F_is_name.kp T.kb_is_name pass0 (pdk_cons (pd_var (pv 0)) pdk_nil)) (pda_cons (pd_callK h_is_places hgd (hr.mono (by decide)) (by rfl) T.g_is_places T.F_is_places.kp T.kb_is_places pass0 (pdk_cons (pd_var (pv 0)) pdk_nil)) (pda_cons (pd_callK h_is_base hgd (hr.mono (by decide)) (by rfl) T.g_is_base T.F_is_base.kp T.kb_is_base pass0 (pdk_cons (pd_var (pv 0)) pdk_nil)) pda_nil)))))
      (pdss_frz 5 (pdss_frz 3 (pdss_frz 4 (pds_one (pds_ret (pd_and (pd_call h__law_exact hgd (hr.mono (by decide)) (by rfl) T.g__law_exact T.F__law_exact.kp T.b__law_exact pass0 (pda_cons (pd_var (pv 4)) (pda_cons (pd_var (pv 3)) pda_nil))) (pd_and (pd_call h__law_exact hgd (hr.mono (by decide)) (by rfl) T.g__law_exact T.F__law_exact.kp T.b__law_exact pass0 (pda_cons (pd_var (pv 5)) (pda_cons (pd_var (pv 3)) pda_nil))) (pd_one (pd_cmp (od_eq hr.units) (pd_callB (cd_repr hgd (hu101 hr)) (by rfl) T.z_repr (by decide +kernel) (pda_cons (pd_var (pv 0)) pda_nil)) (pd_var (pv 1)) (by first | exact nomark _ | rfl)))))))))))))))) (fun rs n Q h _ => ?_)
  obtain ⟨d, rfl, ⟨hr, ht, hl⟩, q⟩ := h
  refine seq_set fun C hC => ?_
  walk_at "dlx"
  refine ⟨hr, hC _ _ _ rfl ?_⟩
  clear hC C
  refine seq_set fun C hC => ?_
  walk_at "dlx"
  have lots : C (.fz (.bool (lotsD d))) n := hC _ _ _ rfl ?_
  · clear hC
    cases d with
    | list ds =>
      obtain ⟨h1, h2, h3⟩ := hl ds rfl
      refine ⟨h1, stop_intro ?_⟩
      refine compL_filterD (fun d => !nameD d) ds (fun x hx C C0 cq => ?_) ?_
      · walk_at "dlx"
        refine ⟨x, rfl, h3 x hx, ?_⟩
        walk_at "dlx"
        exact cq
      · refine ⟨rfl, Nat.zero_le _, shaped_sub h2 fun e he => (List.mem_filter.mp he).1, shaped_nil, ?_⟩
        walk_at "dlx"
        rw [eqv_nil, filter_empty]
        exact lots
    | _ => exact lots
  clear hC C
  refine seq_set fun C hC => ?_
  refine cons_go fun C1 h1 => ?_
  refine ⟨rfl, d, rfl, ht, h1 _ _ ?_⟩
  clear h1 C1
  refine cons_go fun C1 h1 => ?_
  have g : C1 (.fz (.bool (placesD d))) n := h1 _ _ ?_
  · clear h1
    walk_at "dlx"
    cases hd : lotsD d with
    | false =>
      have e : placesD d = false := by
        cases d with
        | list ds => simp only [placesD, show ds.all nameD = false from hd, Bool.false_and]
        | _ => rfl
      rw [e] at g
      exact g
    | true =>
      cases d with
      | list ds =>
        obtain ⟨h1, h2, h3⟩ := hl ds rfl
        have ha : ds.all nameD = true := hd
        obtain ⟨ss, es⟩ := names_strs ha
        refine ⟨ss, by rw [← es], by rw [es, List.length_map] at h1; exact h1, ?_⟩
        have e2 : placesD (.list ds) = riseS ss := by
          simp only [placesD, ha, Bool.true_and, riseD]
          rw [es, asStrs_map]
        rw [e2] at g
        exact g
      | _ => cases hd
  clear h1 C1
  refine cons_go fun C1 h1 => ?_
  have g : C1 (.fz (.bool (baseD d))) n := h1 _ _ ?_
  · clear h1
    cases d with
    | int i =>
      walk_at "dlx"
      by_cases h2 : 1 < i
      · simp only [decide_eq_true h2]
        have e : baseD (.int i) = decide (i < 11) := by
          simp only [baseD]
          rw [decide_eq_true (by omega), Bool.true_and]
          by_cases c : i < 11
          · rw [decide_eq_true c, decide_eq_true (by omega)]
          · rw [decide_eq_false c, decide_eq_false (by omega)]
        rw [e] at g
        exact g
      · simp only [decide_eq_false h2]
        have e : baseD (.int i) = false := by
          simp only [baseD]
          rw [decide_eq_false (by omega), Bool.false_and]
        rw [e] at g
        exact g
    | _ => exact g
  clear h1 C1
  refine ⟨rfl, (show 3 ≤ sizeLine by decide), hC _ _ _ rfl ?_⟩
  clear hC C
  refine seq_set fun C hC => ?_
  refine cons_go fun C1 h1 => ?_
  refine ⟨rfl, d, rfl, ht, h1 _ _ ?_⟩
  clear h1 C1
  refine cons_go fun C1 h1 => ?_
  refine ⟨rfl, d, rfl, fun ds e => ⟨(hl ds e).1, (hl ds e).2.2⟩, h1 _ _ ?_⟩
  clear h1 C1
  refine cons_go fun C1 h1 => ?_
  refine ⟨rfl, d, rfl, h1 _ _ ?_⟩
  clear h1 C1
  refine ⟨rfl, (show 3 ≤ sizeLine by decide), hC _ _ _ rfl ?_⟩
  clear hC C
  refine seq_set fun C hC => ?_
  refine cons_go fun C1 h1 => ?_
  refine ⟨rfl, rfl, d, rfl, ht, h1 _ _ ?_⟩
  clear h1 C1
  refine cons_go fun C1 h1 => ?_
  refine ⟨rfl, rfl, d, rfl, fun ds e => ⟨(hl ds e).1, (hl ds e).2.2⟩, h1 _ _ ?_⟩
  clear h1 C1
  refine cons_go fun C1 h1 => ?_
  refine ⟨rfl, rfl, d, rfl, h1 _ _ ?_⟩
  clear h1 C1
  refine ⟨rfl, (show 3 ≤ sizeLine by decide), hC _ _ _ rfl ?_⟩
  clear hC C
  refine ⟨rfl, [nameD d, placesD d, baseD d], rfl, (show 3 ≤ 100 by decide), ?_⟩
  refine ⟨rfl, [nameD d, placesD d, baseD d], rfl, (show 3 ≤ 100 by decide), ?_⟩
  refine ⟨hr, ?_⟩
  walk_at "dlx"
  rw [beq_self_eq_true]
  exact q
end
end K02

namespace K02
open PySem PySem.Spec PyProof.Rows L2 DL
local macro_rules | `(tactic| walk_at "dlx") => `(tactic| simp only [↓reduceIte, ↓DL.isNon, ↓DL.wNever, ↓DL.wSeq, ↓DL.wIf, ↓DL.wOr, ↓DL.wAnd, ↓DL.wNot, ↓DL.wB, ↓DL.wIsi, ↓DL.wVar, ↓DL.wC, ↓DL.wBin, ↓DL.wUn, ↓DL.wChain, ↓DL.wAndV, ↓DL.wOrV, ↓DL.wNotV, ↓DL.wRet, ↓DL.wRetN, ↓DL.wSkip, ↓DL.wCB, ↓DL.wCons, ↓DL.wNil, ↓DL.wCall, ↓DL.wSet, ↓DL.wFrz, ↓DL.frz, ↓DL.rho0, ↓DL.wLst, ↓DL.wTup, ↓DL.wComp, ↓DL.wiAny, ↓DL.walk, ↓DL.wSl, ↓DL.woNone, ↓DL.woSome, ↓DL.wIfE, ↓DL.RV.slot, ↓DL.RV.rd, ↓DL.RV.fr, ↓DL.RV.isFz, ↓DL.RV.un, ↓DL.RV.arg, ↓DL.RV.ret, ↓DL.RV.ev, ↓DL.EV.rv, ↓DL.o1, ↓DL.oLen, ↓DL.oAll, ↓DL.oAny, ↓DL.oIx, ↓DL.oCut, ↓DL.oEq, ↓DL.oIn, ↓DL.oOrd, ↓DL.oLt, ↓DL.oLe, ↓DL.oGt, ↓DL.oGe, ↓DL.oIs, ↓DL.oAdd, ↓DL.oSub, ↓DL.oInt, ↓DL.oMul, ↓DL.oMod, ↓DL.oDiv, ↓DL.oPow, ↓DL.oNeg, ↓DL.oRepr, ↓DL.oTuple, ↓DL.oList, ↓DL.oIntOf, ↓DL.oStrOf, ↓DL.oMax2, ↓DL.wgN, ↓DL.wiRng1, ↓DL.wiRng2, ↓DL.wiZip, ↓DL.wgTup, ↓DL.wgCons, ↓DL.wgNil, ↓DL.wIfE, ↓DL.wDict1, ↓DL.wDget, ↓DL.wiKeys, ↓DL.oDictOf, ↓DL.wCallK, ↓DL.pick, ↓DL.wipeR, ↓DL.oLenS, ↓DL.oIxS, ↓DL.wGix, ↓DL.wGset, ↓DL.wBits, ↓DL.wFor, ↓DL.oCutS, ↓DL.oSum, ↓DL.wApp, ↓DL.wJoin, ↓DL.wDrop, ↓DL.wPass, ↓DL.wRev,
  List.getElem?_cons_zero, List.getElem?_cons_succ, List.map_cons, List.map_nil, List.length_cons, List.length_nil, List.replicate, List.cons_append, List.nil_append, List.append_nil, List.all_cons, List.all_nil, List.set_cons_zero, List.set_cons_succ, List.set_nil,
  Bool.and_true, Bool.true_and, if_true, if_false, Bool.false_eq_true, Bool.not_true, Bool.not_false, true_and, and_true, ↓DL.isOf])
section
variable {P : Program} {w : World} {K : PySem.W.Frag} {mg : Str → Option Value} {base : Heap}
def cHash : Ct := fun rs n Q => ∃ s i : Int, rs = [.fz (.int s), .fz (.int i)] ∧ (0 ≤ s ∧ s < 2 ^ 31) ∧ (0 ≤ i ∧ i < 2 ^ 42) ∧ ∀ r, 0 ≤ r → r < 2 ^ 31 → Q (.fz (.int r)) n
theorem ok_law_hash (T : Txt K mg) : FnG P w K mg base CX0 1 T.a__law_hash T.fd__law_hash ["seed", "index"] (liftSp K Gk cHash) := by
  refine fn_ok (k := 0) T.F__law_hash sc__law_hash (fun rs n Q ⟨d, b, e, _⟩ => by rw [e]; rfl) (fun cdv A outer s H E g B F0 hgd hr => (pds_cons (pds_set (i := 2) sc__law_hash.nd rfl (by first | exact Or.inl rfl | exact Or.inr rfl) (pd_bin od_mod (pd_callTy cd_intOf (by rfl) T.z_int (by decide +kernel) (pda_cons (pd_bin od_add (pd_bin od_add (pd_bin od_add (pd_bin od_mul (pd_var (pv 0)) pd_int) (pd_bin od_mul (pd_bin od_mul pd_int (pd_var (pv 1))) (pd_var (pv 1)))) (pd_bin od_mul pd_int (pd_var (pv 1)))) pd_int) pda_nil)) pd_int))
      (pds_cons (pds_set (i := 2) sc__law_hash.nd rfl (by first | exact Or.inl rfl | exact Or.inr rfl) (pd_bin od_mod (pd_callTy cd_intOf (by rfl) T.z_int (by decide +kernel) (pda_cons (pd_bin od_add (pd_bin od_add (pd_bin od_mul (pd_var (pv 2)) (pd_var (pv 2))) (pd_bin od_mul pd_int (pd_var (pv 1)))) pd_int) pda_nil)) pd_int))
      (pds_one (pds_ret (pd_bin od_mod (pd_callTy cd_intOf (by rfl) T.z_int (by decide +kernel) (pda_cons (pd_bin od_mul (pd_var (pv 2)) pd_int) pda_nil)) pd_int)))))) (fun rs n Q h _ => ?_)
  obtain ⟨s, i, rfl, hs, hi, q⟩ := h
  refine seq_set fun C hC => ?_
  walk_at "dlx"
  refine ⟨cm_r (by decide) (by decide), cm_l (by decide) (by decide), cm_r (by omega) (by omega), cm_l (by decide) (by decide), by decide, hC _ _ _ rfl ?_⟩
  clear hC C
  have m0 := Int.emod_nonneg (s * 1140671 + 27644437 * i * i + 131 * i + 19) (show (2147483629 : Int) ≠ 0 by decide)
  have m1 := Int.emod_lt_of_pos (s * 1140671 + 27644437 * i * i + 131 * i + 19) (show (0 : Int) < 2147483629 by decide)
  generalize (s * 1140671 + 27644437 * i * i + 131 * i + 19) % 2147483629 = m at m0 m1 ⊢
  refine seq_set fun C hC => ?_
  walk_at "dlx"
  refine ⟨cm_l (by omega) (by omega), cm_l (by decide) (by decide), by decide, hC _ _ _ rfl ?_⟩
  clear hC C
  have k0 := Int.emod_nonneg (m * m + 62089 * i + 32416187) (show (2147483587 : Int) ≠ 0 by decide)
  have k1 := Int.emod_lt_of_pos (m * m + 62089 * i + 32416187) (show (0 : Int) < 2147483587 by decide)
  generalize (m * m + 62089 * i + 32416187) % 2147483587 = k at k0 k1 ⊢
  walk_at "dlx"
  refine ⟨cm_r (by decide) (by decide), by decide, q _ ?_ ?_⟩ <;> omega
def cCell : Ct := fun rs n Q => ∃ (ns : List Int) (i : Int), rs = [.scr ns, .fz (.int i)] ∧ 0 ≤ i ∧ ∀ z, Q (.fz (.int z)) n
theorem ok_law_cell (T : Txt K mg) : FnG P w K mg base CX0 1 T.a__law_cell T.fd__law_cell ["script", "index"] (liftSp K Gk cCell) := by
  refine fn_ok (k := 0) T.F__law_cell sc__law_cell (fun rs n Q ⟨d, b, e, _⟩ => by rw [e]; rfl) (fun cdv A outer s H E g B F0 hgd hr => (pds_cons (pds_if (pdt_cmp od_lt (pd_var (pv 1)) (pd_callB cd_lenS (by rfl) T.z_len (by decide +kernel) (pda_cons (pd_var (pv 0)) pda_nil)) (by first | exact nomark _ | rfl)) (pds_one (pds_ret (pd_ix id_ixS (pd_var (pv 0)) (pd_var (pv 1)) (fun _ _ => rfl)))) pds_nil)
      (pds_one (pds_ret (pd_bin od_mod (pd_callB (cd_sum rfl) (by rfl) T.z_sum (by decide +kernel) (pda_cons (pd_slice sd_cutS (pd_var (pv 0)) pdo_none (pdo_some pd_int)) pda_nil)) pd_int))))) (fun rs n Q h _ => ?_)
  obtain ⟨ns, i, rfl, hi, q⟩ := h
  walk_at "dlx"
  by_cases h : i < ns.length
  · rw [if_pos (decide_eq_true h), atI_nat (j := i.toNat) (by omega) (by omega)]
    exact q _
  · rw [if_neg (by rw [decide_eq_true_eq]; exact h)]
    rw [asInts_map]
    exact ⟨by decide, q _⟩
def cGen : Ct := fun rs n Q => ∃ (ns : List Int) (i : Int), rs = [.scr ns, .fz (.int i)] ∧ 0 ≤ i ∧ i < 1000 ∧ ∀ a b, 0 ≤ a → a < 2 ^ 2100 → 0 ≤ b → b < 2 ^ 31 → Q (.tmp [.int a, .int b, .int (1000 * i)]) n
theorem ok_law_generator (T : Txt K mg) : FnG P w K mg base CX0 2 T.a__law_generator T.fd__law_generator ["script", "index"] (liftSp K Gk cGen) := by
  have h__law_cell := fun {P w base} => ok_law_cell (P := P) (w := w) (base := base) T
  refine fn_ok (k := 1) T.F__law_generator sc__law_generator (fun rs n Q ⟨d, b, e, _⟩ => by rw [e]; rfl) (fun cdv A outer s H E g B F0 hgd hr => (pds_cons (pds_set (i := 2) sc__law_generator.nd rfl (by first | exact Or.inl rfl | exact Or.inr rfl) (pd_call h__law_cell hgd (hr.mono (by decide)) (by rfl) T.g__law_cell T.F__law_cell.kp T.b__law_cell pass0 (pda_cons (pd_var (pv 0)) (pda_cons (pd_var (pv 1)) pda_nil))))
      (pds_one (pds_ret (pd_lst (pda_cons (pd_bin od_mod (pd_callTy cd_intOf (by rfl) T.z_int (by decide +kernel) (pda_cons (pd_callB (cd_max2 rfl) (by rfl) T.z_max (by decide +kernel) (pda_cons (pd_bin od_sub (pd_var (pv 2)) (pd_bin od_pow pd_int pd_int)) (pda_cons pd_int pda_nil))) pda_nil)) (pd_bin od_pow (pd_bin od_pow pd_int pd_int) pd_int)) (pda_cons (pd_bin od_mod (pd_callTy cd_intOf (by rfl) T.z_int (by decide +kernel) (pda_cons (pd_var (pv 2)) pda_nil)) pd_int) (pda_cons (pd_bin od_mul pd_int (pd_var (pv 1))) pda_nil)))))))) (fun rs n Q h _ => ?_)
  obtain ⟨ns, i, rfl, h0, h1, q⟩ := h
  refine seq_set fun C hC => ?_
  refine ⟨rfl, ns, i, rfl, h0, fun z => hC _ _ _ rfl ?_⟩
  clear hC C
  walk_at "dlx"
  refine ⟨cp_of (by decide) (by decide +kernel), cp_of (by decide) (by decide +kernel), cp_of (by decide) (by decide +kernel), by decide +kernel, by decide, cm_l (by decide) (by decide), by decide, q _ _ ?_ ?_ ?_ ?_⟩
  · exact Int.emod_nonneg _ (by decide +kernel)
  · exact Int.lt_trans (Int.emod_lt_of_pos _ (by decide +kernel)) (by decide +kernel)
  · exact Int.emod_nonneg _ (by decide)
  · exact Int.lt_trans (Int.emod_lt_of_pos _ (by decide)) (by decide)
def cRandom : Ct := fun rs n Q => ∃ b : Int, rs = [.gen, .fz (.int b)] ∧ (0 < b ∧ b < 2 ^ 60) ∧ n + 100 ≤ 2 ^ 40 ∧ ∀ r n', 0 ≤ r → r < b → n ≤ n' → n' ≤ n + 10 → Q (.fz (.int r)) n'
theorem bits_le {b : Int} (h0 : 0 < b) (h1 : b < 2 ^ 60) : (Builtin.Int.intBits b : Int) ≤ 60 := by
  unfold Builtin.Int.intBits
  rw [if_neg (by simp; omega)]
  have : b.natAbs.log2 < 60 := (Nat.log2_lt (by omega)).mpr (by omega)
  omega
theorem ok_law_random (T : Txt K mg) : FnG P w K mg base CX0 2 T.a__law_random T.fd__law_random ["generator", "bound"] (liftSp K Gk cRandom) := by
  have h__law_hash := fun {P w base} => ok_law_hash (P := P) (w := w) (base := base) T
  refine fn_ok (k := 1) T.F__law_random sc__law_random (fun rs n Q ⟨b, e, _⟩ => by rw [e]; rfl) (fun cdv A outer s H E g B F0 hgd hr => (pds_cons (pds_if (pdt_cmp od_gt (pd_gix (pv 0)) pd_int (by first | exact nomark _ | rfl)) (pds_cons (pds_set (i := 2) sc__law_random.nd rfl (by first | exact Or.inl rfl | exact Or.inr rfl) (pd_bin od_mod (pd_callTy cd_intOf (by rfl) T.z_int (by decide +kernel) (pda_cons (pd_gix (pv 0)) pda_nil)) (pd_var (pv 1))))
      (pds_cons (pds_gset (pv 0) (pd_bin od_div (pd_gix (pv 0)) (pd_var (pv 1))) (fun h => ps_asg h (pg_sub (pv 0) pe_int set_list)))
      (pds_one (pds_ret (pd_var (pv 2)))))) pds_nil)
      (pds_cons (pds_set (i := 2) sc__law_random.nd rfl (by first | exact Or.inl rfl | exact Or.inr rfl) pd_int)
      (pds_cons (pds_for PassesOwn.never rfl (pdi_range1 (by rfl) T.z_range (pd_bin od_add pd_int (pd_bin od_div (pd_bits (pd_var (pv 1))) pd_int))) (pdg_name (pg_name (i := 3) sc__law_random.nd rfl (by first | exact Or.inl rfl | exact Or.inr rfl))) (pds_cons (pds_gset (pv 0) (pd_bin od_add (pd_gix (pv 0)) pd_int) (fun h => ps_asg h (pg_sub (pv 0) pe_int set_list)))
      (pds_one (pds_set (i := 2) sc__law_random.nd rfl (by first | exact Or.inl rfl | exact Or.inr rfl) (pd_bin od_add (pd_bin od_mul (pd_var (pv 2)) pd_int) (pd_call h__law_hash hgd (hr.mono (by decide)) (by rfl) T.g__law_hash T.F__law_hash.kp T.b__law_hash pass0 (pda_cons (pd_gix (pv 0)) (pda_cons (pd_gix (pv 0)) pda_nil))))))))
      (pds_one (pds_ret (pd_bin od_mod (pd_callTy cd_intOf (by rfl) T.z_int (by decide +kernel) (pda_cons (pd_var (pv 2)) pda_nil)) (pd_var (pv 1))))))))) (fun rs n Q h _ => ?_)
  obtain ⟨b, rfl, hb, hn, q⟩ := h
  refine seq_if fun C hC => ?_
  walk_at "dlx"
  refine ⟨by decide, fun z hz => hC _ _ ?_⟩
  clear hC C
  by_cases c : 0 < z
  · rw [if_pos (decide_eq_true c)]
    refine seq_set fun C hC => ?_
    walk_at "dlx"
    refine ⟨by decide, fun x hx => ⟨hb.1, hC _ _ _ rfl ?_⟩⟩
    clear hC C
    walk_at "dlx"
    refine ⟨by decide, fun y hy => ⟨⟨hb.1, ?_⟩, by decide, ⟨Int.ediv_nonneg hy.1 (by omega), fun _ => ?_, fun h => absurd h (by decide)⟩, ?_⟩⟩
    · have : b.natAbs.log2 < 60 := (Nat.log2_lt (by omega)).mpr (by omega)
      omega
    · have h1 := hy.2.1 rfl
      have h2 : y / b ≤ y := Int.ediv_le_self _ hy.1
      exact Int.lt_of_le_of_lt h2 h1
    · rw [if_neg (show ¬(0 : Int) = 2 by decide)]
      exact q _ _ (Int.emod_nonneg _ (by omega)) (Int.emod_lt_of_pos _ hb.1) (Nat.le_refl _) (by omega)
  · rw [if_neg (by rw [decide_eq_true_eq]; exact c)]
    refine skip_go ?_
    dsimp only
    refine seq_set fun C hC => ?_
    walk_at "dlx"
    refine hC _ _ _ rfl ?_
    clear hC C
    walk_at "dlx"
    have hbit := bits_le hb.1 hb.2
    have hlen : (span 0 (1 + (Builtin.Int.intBits b : Int) / 30).toNat).length ≤ 3 := by
      simp only [DL.span, List.length_map, List.length_range]
      omega
    refine ⟨⟨by decide, by decide⟩, ⟨by omega, by omega⟩, stop_intro (forL_inv _ (fun j ρ n' => ∃ (d : Int) (t : Option EV), ρ = [some .gen, some (.fz (.int b)), some (.fz (.int d)), t] ∧ n ≤ n' ∧ n' ≤ n + j) ?_ wgN_mono ⟨0, none, rfl, Nat.le_refl _, Nat.le_refl _⟩ ?_)⟩
    · rintro j x ρ n' hx ⟨d, t, rfl, h1, h2⟩
      have hj := (List.getElem?_eq_some_iff.mp hx).1
      refine fun C hC => ?_
      walk_at "dlx"
      refine ⟨by decide, fun z hz => ⟨by decide, ⟨?_, ?_, ?_⟩, ?_⟩⟩
      · have := hz.1; omega
      · intro h; exact absurd h (by decide)
      · intro h; exact absurd h (by decide)
      · have z0 := hz.1
        have z1 := hz.2.2.2 rfl
        generalize hm : max n' (z + 1).toNat = m
        have hm1 : m ≤ n' + 1 := by omega
        have hm2 : n' ≤ m := by omega
        refine ⟨cm_r (by decide) (by decide), by decide, fun y hy => ⟨by decide, fun u hu => stop_intro ⟨y, u, rfl, ⟨hy.1, hy.2.2.1 rfl⟩, ⟨hu.1, ?_⟩, fun r r0 r1 => ?_⟩⟩⟩
        · have := hu.2.2.2 rfl
          omega
        · rw [if_pos rfl]
          exact hC _ _ ⟨_, _, rfl, by omega, by omega⟩
    · rintro ρ' n' ⟨d, t, rfl, h1, h2⟩
      exact ⟨hb.1, q _ _ (Int.emod_nonneg _ (by omega)) (Int.emod_lt_of_pos _ hb.1) h1 (by omega)⟩
def cPick : Ct := fun rs n Q => ∃ d ds, rs = [.gen, .fz d] ∧ (d = .list ds ∨ ∃ z, d = .str z ∧ ds = DL.signs z) ∧ (0 < ds.length ∧ ds.length ≤ 1000) ∧ n + 100 ≤ 2 ^ 40 ∧ ∀ e ∈ ds, ∀ n', n ≤ n' → n' ≤ n + 10 → Q (.fz e) n'
theorem ok_law_pick (T : Txt K mg) : FnG P w K mg base CX0 3 T.a__law_pick T.fd__law_pick ["generator", "things"] (liftSp K Gk cPick) := by
  have h__law_random := fun {P w base} => ok_law_random (P := P) (w := w) (base := base) T
  refine fn_ok (k := 2) T.F__law_pick sc__law_pick (fun rs n Q ⟨d, ds, e, _⟩ => by rw [e]; rfl) (fun cdv A outer s H E g B F0 hgd hr => (pds_one (pds_ret (pd_ix id_ix (pd_var (pv 1)) (pd_call h__law_random hgd (hr.mono (by decide)) (by rfl) T.g__law_random T.F__law_random.kp T.b__law_random pass0 (pda_cons (pd_var (pv 0)) (pda_cons (pd_callB cd_len (by rfl) T.z_len (by decide +kernel) (pda_cons (pd_var (pv 1)) pda_nil)) pda_nil))) (fun _ _ => rfl))))) (fun rs n Q h _ => ?_)
  obtain ⟨d, ds, rfl, hd, hl, hn, q⟩ := h
  have hs := sizeLine_eq
  rcases hd with rfl | ⟨z, rfl, rfl⟩
  · walk_at "dlx"
    refine ⟨(ds.length : Int), rfl, ⟨by omega, by omega⟩, hn, fun r n' r0 r1 h1 h2 => ?_⟩
    walk_at "dlx"
    rw [atI_nat (j := r.toNat) (by omega) (by omega)]
    exact q _ (List.getElem_mem _) n' h1 h2
  · walk_at "dlx"
    have hz : z.length = (DL.signs z).length := by simp [DL.signs, Str.length]
    refine ⟨by omega, (z.length : Int), rfl, ⟨by omega, by omega⟩, hn, fun r n' r0 r1 h1 h2 => ?_⟩
    walk_at "dlx"
    have hz2 : z.cps.toList.length = z.length := by simp [Str.length]
    rw [atI_nat (j := r.toNat) (by omega) (by omega)]
    refine ⟨by omega, q _ ?_ n' h1 h2⟩
    unfold DL.signs
    exact List.mem_map.mpr ⟨_, List.getElem_mem _, rfl⟩
end
end K02

namespace K02
open PySem PySem.Spec PyProof.Rows L2 DL
local macro_rules | `(tactic| walk_at "dlx") => `(tactic| simp only [↓reduceIte, ↓DL.isNon, ↓DL.wNever, ↓DL.wSeq, ↓DL.wIf, ↓DL.wOr, ↓DL.wAnd, ↓DL.wNot, ↓DL.wB, ↓DL.wIsi, ↓DL.wVar, ↓DL.wC, ↓DL.wBin, ↓DL.wUn, ↓DL.wChain, ↓DL.wAndV, ↓DL.wOrV, ↓DL.wNotV, ↓DL.wRet, ↓DL.wRetN, ↓DL.wSkip, ↓DL.wCB, ↓DL.wCons, ↓DL.wNil, ↓DL.wCall, ↓DL.wSet, ↓DL.wFrz, ↓DL.frz, ↓DL.rho0, ↓DL.wLst, ↓DL.wTup, ↓DL.wComp, ↓DL.wiAny, ↓DL.walk, ↓DL.wSl, ↓DL.woNone, ↓DL.woSome, ↓DL.wIfE, ↓DL.RV.slot, ↓DL.RV.rd, ↓DL.RV.fr, ↓DL.RV.isFz, ↓DL.RV.un, ↓DL.RV.arg, ↓DL.RV.ret, ↓DL.RV.ev, ↓DL.EV.rv, ↓DL.o1, ↓DL.oLen, ↓DL.oAll, ↓DL.oAny, ↓DL.oIx, ↓DL.oCut, ↓DL.oEq, ↓DL.oIn, ↓DL.oOrd, ↓DL.oLt, ↓DL.oLe, ↓DL.oGt, ↓DL.oGe, ↓DL.oIs, ↓DL.oAdd, ↓DL.oSub, ↓DL.oInt, ↓DL.oMul, ↓DL.oMod, ↓DL.oDiv, ↓DL.oPow, ↓DL.oNeg, ↓DL.oRepr, ↓DL.oTuple, ↓DL.oList, ↓DL.oIntOf, ↓DL.oStrOf, ↓DL.oMax2, ↓DL.wgN, ↓DL.wiRng1, ↓DL.wiRng2, ↓DL.wiZip, ↓DL.wgTup, ↓DL.wgCons, ↓DL.wgNil, ↓DL.wIfE, ↓DL.wDict1, ↓DL.wDget, ↓DL.wiKeys, ↓DL.oDictOf, ↓DL.wCallK, ↓DL.pick, ↓DL.wipeR, ↓DL.oLenS, ↓DL.oIxS, ↓DL.wGix, ↓DL.wGset, ↓DL.wBits, ↓DL.wFor, ↓DL.oCutS, ↓DL.oSum, ↓DL.wApp, ↓DL.wJoin, ↓DL.wDrop, ↓DL.wPass, ↓DL.wRev,
  List.getElem?_cons_zero, List.getElem?_cons_succ, List.map_cons, List.map_nil, List.length_cons, List.length_nil, List.replicate, List.cons_append, List.nil_append, List.append_nil, List.all_cons, List.all_nil, List.set_cons_zero, List.set_cons_succ, List.set_nil,
  Bool.and_true, Bool.true_and, if_true, if_false, Bool.false_eq_true, Bool.not_true, Bool.not_false, true_and, and_true, ↓DL.isOf])
section
variable {P : Program} {w : World} {K : PySem.W.Frag} {mg : Str → Option Value} {base : Heap}
def newR : D → RV
  | .list ds => .tmp ds
  | d => .fz d
def copyB : Nat → D → Bool
  | 0, _ => false
  | m + 1, .list ds => decide (ds.length ≤ 1000) && ds.all (copyB m)
  | m + 1, .tuple ds => decide (ds.length ≤ 1000) && ds.all (copyB m)
  | m + 1, .dict [] => true
  | m + 1, .dict [(.str _, .int _)] => decide (0 < m)
  | m + 1, .dict _ => false
  | m + 1, _ => true
theorem newR_fr (d : D) : (newR d).fr = .fz d := by cases d <;> rfl
def cCopied (m : Nat) : Ct := fun rs n Q => ∃ d, rs = [.fz d] ∧ copyB m d = true ∧ Q (newR d) n
theorem ok_law_copied (T : Txt K mg) : ∀ m : Nat, FnG P w K mg base CX0 m T.a__law_copied T.fd__law_copied ["value"] (liftSp K Gk (cCopied m))
  | 0 => ⟨fun vs H Q E ⟨_, _, _, _, _, _, _, _, ⟨_, _, h, _⟩, _⟩ => (by cases h), fun A outer s H args us vs Q E _ _ _ _ _ ⟨_, _, _, _, _, _, _, _, ⟨_, _, h, _⟩, _⟩ => (by cases h)⟩
  | m + 1 => by
    have h__law_copied := ok_law_copied T m
    refine fn_ok (k := m) T.F__law_copied sc__law_copied (fun rs n Q ⟨d, e, _⟩ => by rw [e]; rfl) (fun cdv A outer s H E g B F0 hgd hr => (pds_cons (pds_if (pdt_val (pd_isi .list (by rfl) T.z_isinstance (by rfl) T.z_list (by decide +kernel) (pd_var (pv 0)))) (pds_one (pds_ret (pd_lc (own := [("item", 1)]) rfl sc__law_copied.nd (pdi_any (pd_var (pv 0))) (blkOk_by (N := ["value", "item", "key"]) (sc := defScope s__law_copied) (by decide +kernel)) (by decide) (fun _ _ _ _ _ => (pdg_name (pg_name (i := 1) sc__law_copied.nd rfl (by first | exact Or.inl rfl | exact Or.inr rfl)))) (fun _ _ _ _ _ => pdts_nil) (fun _ _ _ _ _ => (pd_call h__law_copied hgd hr (by rfl) T.g__law_copied T.F__law_copied.kp T.b__law_copied pass0 (pda_cons (pd_var (pv 1)) pda_nil)))))) pds_nil)
      (pds_cons (pds_if (pdt_val (pd_isi .tuple (by rfl) T.z_isinstance (by rfl) T.z_tuple (by decide +kernel) (pd_var (pv 0)))) (pds_one (pds_ret (pd_callTy cd_tuple (by rfl) T.z_tuple (by decide +kernel) (pda_cons (pd_lc (own := [("item", 1)]) rfl sc__law_copied.nd (pdi_any (pd_var (pv 0))) (blkOk_by (N := ["value", "item", "key"]) (sc := defScope s__law_copied) (by decide +kernel)) (by decide) (fun _ _ _ _ _ => (pdg_name (pg_name (i := 1) sc__law_copied.nd rfl (by first | exact Or.inl rfl | exact Or.inr rfl)))) (fun _ _ _ _ _ => pdts_nil) (fun _ _ _ _ _ => (pd_call h__law_copied hgd hr (by rfl) T.g__law_copied T.F__law_copied.kp T.b__law_copied pass0 (pda_cons (pd_var (pv 1)) pda_nil)))) pda_nil)))) pds_nil)
      (pds_one (pds_ret (pd_if (pdt_val (pd_isi .dict (by rfl) T.z_isinstance (by rfl) T.z_dict (by decide +kernel) (pd_var (pv 0)))) (pd_callTy (cd_dict rfl) (by rfl) T.z_dict (by decide +kernel) (pda_cons (pd_lc (own := [("key", 2)]) rfl sc__law_copied.nd (pdi_keys (pd_var (pv 0))) (blkOk_by (N := ["value", "item", "key"]) (sc := defScope s__law_copied) (by decide +kernel)) (by decide) (fun _ _ _ _ _ => (pdg_name (pg_name (i := 2) sc__law_copied.nd rfl (by first | exact Or.inl rfl | exact Or.inr rfl)))) (fun _ _ _ _ _ => pdts_nil) (fun _ _ _ _ _ => (pd_tup (pda_cons (pd_var (pv 2)) (pda_cons (pd_call h__law_copied hgd hr (by rfl) T.g__law_copied T.F__law_copied.kp T.b__law_copied pass0 (pda_cons (pd_dget (hu1 hr) (pd_var (pv 0)) (pd_var (pv 2)) (fun _ _ => rfl)) pda_nil)) pda_nil))))) pda_nil)) (pd_var (pv 0)))))))) (fun rs n Q h _ => ?_)
    obtain ⟨d, rfl, hd, q⟩ := h
    have hs := sizeLine_eq
    cases d with
    | list ds =>
      have hd' : (decide (ds.length ≤ 1000) && ds.all (copyB m)) = true := by simpa [copyB] using hd
      rw [Bool.and_eq_true, decide_eq_true_eq, List.all_eq_true] at hd'
      walk_at "dlx"
      refine ⟨by omega, stop_intro (compL_eachR (fun d => d) ds (fun x hx C cq => ?_) ?_)⟩
      · exact ⟨rfl, x, rfl, hd'.2 x hx, cq _ (newR_fr x)⟩
      · rw [List.map_id'' (fun _ => rfl)]
        exact q
    | tuple ds =>
      have hd' : (decide (ds.length ≤ 1000) && ds.all (copyB m)) = true := by simpa [copyB] using hd
      rw [Bool.and_eq_true, decide_eq_true_eq, List.all_eq_true] at hd'
      walk_at "dlx"
      refine ⟨by omega, stop_intro (compL_eachR (fun d => d) ds (fun x hx C cq => ?_) ?_)⟩
      · exact ⟨rfl, x, rfl, hd'.2 x hx, cq _ (newR_fr x)⟩
      · rw [List.map_id'' (fun _ => rfl)]
        exact q
    | dict kvs =>
      have hk : kvs = [] ∨ ∃ z i, kvs = [(.str z, .int i)] ∧ 0 < m := by
        match kvs, hd with
        | [], _ => exact .inl rfl
        | [(.str z, .int i)], h => exact .inr ⟨z, i, rfl, by simpa [copyB] using h⟩
      rcases hk with rfl | ⟨z, i, rfl, hm⟩
      · exact ⟨Nat.zero_le _, q⟩
      · refine ⟨show 1 ≤ sizeLine by decide, ?_⟩
        have hc : copyB m (.int i) = true := by
          cases m with
          | zero => cases hm
          | succ m => rfl
        refine stop_intro (compL_each (fun d => d) (fun x => .tuple [x, .int i]) [PyData.str z] (fun x hx C cq => ?_) ?_)
        · obtain rfl := List.mem_singleton.mp hx
          walk_at "dlx"
          have e : (keyD (.str z)).bind (DL.getD [(.str z, .int i)]) = some (.int i) := by simp [keyD, DL.getD]
          rw [e]
          refine ⟨.int i, rfl, hc, rfl, show 2 ≤ sizeLine by decide, cq⟩
        · exact ⟨rfl, q⟩
    | _ => exact q
def setD (ds : List D) : Prop := (∃ ns : List Int, ds = ns.map PyData.int) ∨ ∃ ss : List Str, ds = ss.map PyData.str ∧ ss.length < 64 ∧ ∀ z ∈ ss, PyData.strOk z = true
def cUnlike : Ct := fun rs n Q => ∃ ds, rs = [.fz (.list ds)] ∧ setD ds ∧ ds.length ≤ 1000 ∧ ∀ es : List D, es.length ≤ ds.length → (∀ e ∈ es, e ∈ ds) → Q (.tmp es) n
theorem setD_shaped {ds : List D} (h : setD ds) : SeqAt.shaped (.list ds) = true := by
  rcases h with ⟨ns, rfl⟩ | ⟨ss, rfl, _, h⟩
  · exact shaped_ints ns
  · exact shaped_strs h
theorem setD_sorted {ds : List D} {r : RV} (hr : r.rd = some (.list ds)) (h : setD ds) {P : RV → Prop} (q : ∀ es : List D, es.length = ds.length → (∀ e ∈ es, e ∈ ds) → (asInts ds).isSome = (asInts es).isSome → P (.tmp es)) : oSorted [r] P := by
  unfold oSorted o1
  dsimp only
  rw [hr]
  dsimp only
  rcases h with ⟨ns, rfl⟩ | ⟨ss, rfl, hl, h⟩
  · rw [asInts_map]
    intro ns' pm _
    refine q _ (by rw [List.length_map, List.length_map, pm.length_eq]) (fun e he => ?_) (by rw [asInts_map, asInts_map]; rfl)
    obtain ⟨i, hi, rfl⟩ := List.mem_map.mp he
    exact List.mem_map.mpr ⟨i, pm.subset hi, rfl⟩
  · cases ss with
    | nil =>
      intro ns' pm _
      have : ns' = [] := List.Perm.eq_nil pm
      subst this
      exact q [] rfl (fun e h => nomatch h) rfl
    | cons z ss =>
      rw [show asInts ((z :: ss).map PyData.str) = none from rfl]
      dsimp only
      rw [asStrs_map]
      refine ⟨hl, fun ys pm _ => q _ (by rw [List.length_map, List.length_map, pm.length_eq]) (fun e he => ?_) ?_⟩
      · obtain ⟨i, hi, rfl⟩ := List.mem_map.mp he
        exact List.mem_map.mpr ⟨i, pm.subset hi, rfl⟩
      · have hy : ys ≠ [] := fun e => by rw [e] at pm; exact absurd pm.length_eq (by simp)
        cases ys with
        | nil => exact absurd rfl hy
        | cons y ys => rfl
theorem ok_law_unlike (T : Txt K mg) : FnG P w K mg base CX0 1 T.a__law_unlike T.fd__law_unlike ["items"] (liftSp K Gk cUnlike) := by
  refine fn_ok (k := 0) T.F__law_unlike sc__law_unlike (fun rs n Q ⟨b, e, _⟩ => by rw [e]; rfl) (fun cdv A outer s H E g B F0 hgd hr => (pds_cons (pds_set (i := 1) sc__law_unlike.nd rfl (by first | exact Or.inl rfl | exact Or.inr rfl) (pd_lst pda_nil))
      (pds_cons (pds_for PassesOwn.never rfl (pdi_any (pd_callB cd_sorted (by rfl) T.z_sorted (by decide +kernel) (pda_cons (pd_var (pv 0)) pda_nil))) (pdg_name (pg_name (i := 2) sc__law_unlike.nd rfl (by first | exact Or.inl rfl | exact Or.inr rfl))) (pds_one (pds_if (pdt_cmp (od_notin (hu65 hr)) (pd_var (pv 2)) (pd_var (pv 1)) (by first | exact nomark _ | rfl)) (pdss_frz 2 (pds_one (pds_app (pv 1) (pd_var (pv 2))))) pds_nil)))
      (pds_one (pds_ret (pd_var (pv 1))))))) (fun rs n Q h _ => ?_)
  obtain ⟨ds, rfl, hd, hl, q⟩ := h
  have hs := sizeLine_eq
  have hsh := setD_shaped hd
  refine seq_set fun C hC => ?_
  walk_at "dlx"
  refine ⟨Nat.zero_le _, hC _ _ _ rfl ?_⟩
  clear hC C
  refine seq_for fun C hC => ?_
  walk_at "dlx"
  refine setD_sorted rfl hd fun es el em _ => ?_
  refine hC _ _ ?_
  clear hC C
  refine (forL_inv _ (fun j ρ n' => n' = n ∧ ∃ (fs : List D) (t : Option EV), ρ = [some (.fz (.list ds)), some (.ol fs), t] ∧ fs.length ≤ j ∧ ∀ f ∈ fs, f ∈ ds) ?_ wgN_mono ⟨rfl, [], none, rfl, Nat.le_refl _, fun f h => nomatch h⟩ ?_)
  · rintro j x ρ n' hx ⟨rfl, fs, t, rfl, h1, h2⟩
    have hxm := em x (List.mem_of_getElem? hx)
    have hj := (List.getElem?_eq_some_iff.mp hx).1
    refine fun C hC => ?_
    walk_at "dlx"
    refine ⟨(shaped_mem hsh hxm).1, shaped_sub hsh h2, ?_⟩
    split
    · refine ⟨by omega, hC _ _ ⟨rfl, _, _, rfl, by rw [List.length_append]; simp; omega, fun f hf => ?_⟩⟩
      rcases List.mem_append.mp hf with hf | hf
      · exact h2 f hf
      · rw [List.mem_singleton.mp hf]
        exact hxm
    · exact hC _ _ ⟨rfl, _, _, rfl, by omega, h2⟩
  · rintro ρ' n' ⟨rfl, fs, t, rfl, h1, h2⟩
    exact q fs (by omega) h2
end
end K02

namespace K02
open PySem PySem.Spec PyProof.Rows L2 DL
local macro_rules | `(tactic| walk_at "dlx") => `(tactic| simp only [↓reduceIte, ↓DL.isNon, ↓DL.wNever, ↓DL.wSeq, ↓DL.wIf, ↓DL.wOr, ↓DL.wAnd, ↓DL.wNot, ↓DL.wB, ↓DL.wIsi, ↓DL.wVar, ↓DL.wC, ↓DL.wBin, ↓DL.wUn, ↓DL.wChain, ↓DL.wAndV, ↓DL.wOrV, ↓DL.wNotV, ↓DL.wRet, ↓DL.wRetN, ↓DL.wSkip, ↓DL.wCB, ↓DL.wCons, ↓DL.wNil, ↓DL.wCall, ↓DL.wSet, ↓DL.wFrz, ↓DL.frz, ↓DL.rho0, ↓DL.wLst, ↓DL.wTup, ↓DL.wComp, ↓DL.wiAny, ↓DL.walk, ↓DL.wSl, ↓DL.woNone, ↓DL.woSome, ↓DL.wIfE, ↓DL.RV.slot, ↓DL.RV.rd, ↓DL.RV.fr, ↓DL.RV.isFz, ↓DL.RV.un, ↓DL.RV.arg, ↓DL.RV.ret, ↓DL.RV.ev, ↓DL.EV.rv, ↓DL.o1, ↓DL.oLen, ↓DL.oAll, ↓DL.oAny, ↓DL.oIx, ↓DL.oCut, ↓DL.oEq, ↓DL.oIn, ↓DL.oOrd, ↓DL.oLt, ↓DL.oLe, ↓DL.oGt, ↓DL.oGe, ↓DL.oIs, ↓DL.oAdd, ↓DL.oSub, ↓DL.oInt, ↓DL.oMul, ↓DL.oMod, ↓DL.oDiv, ↓DL.oPow, ↓DL.oNeg, ↓DL.oRepr, ↓DL.oTuple, ↓DL.oList, ↓DL.oIntOf, ↓DL.oStrOf, ↓DL.oMax2, ↓DL.wgN, ↓DL.wiRng1, ↓DL.wiRng2, ↓DL.wiZip, ↓DL.wgTup, ↓DL.wgCons, ↓DL.wgNil, ↓DL.wIfE, ↓DL.wDict1, ↓DL.wDget, ↓DL.wiKeys, ↓DL.oDictOf, ↓DL.wCallK, ↓DL.pick, ↓DL.wipeR, ↓DL.oLenS, ↓DL.oIxS, ↓DL.wGix, ↓DL.wGset, ↓DL.wBits, ↓DL.wFor, ↓DL.oCutS, ↓DL.oSum, ↓DL.wApp, ↓DL.wJoin, ↓DL.wDrop, ↓DL.wPass, ↓DL.wRev,
  List.getElem?_cons_zero, List.getElem?_cons_succ, List.map_cons, List.map_nil, List.length_cons, List.length_nil, List.replicate, List.cons_append, List.nil_append, List.append_nil, List.all_cons, List.all_nil, List.set_cons_zero, List.set_cons_succ, List.set_nil,
  Bool.and_true, Bool.true_and, if_true, if_false, Bool.false_eq_true, Bool.not_true, Bool.not_false, true_and, and_true, ↓DL.isOf])
section
variable {P : Program} {w : World} {K : PySem.W.Frag} {mg : Str → Option Value} {base : Heap}
/-! ### strings -/
theorem join_signs0 : ∀ cs : List Nat, (Str.join (Str.ofString "") (cs.map fun c => (⟨#[c]⟩ : Str))).cps.toList = cs
  | [] => rfl
  | [c] => rfl
  | c :: d :: r => by
    have ih := join_signs0 (d :: r)
    show ((#[c] ++ #[]) ++ (Str.join (Str.ofString "") ((d :: r).map fun c => (⟨#[c]⟩ : Str))).cps).toList = _
    rw [Array.toList_append, ih]
    rfl
theorem join_signs (cs : List Nat) : Txt.join (Str.ofString "") (cs.map fun c => (⟨#[c]⟩ : Str)) = ⟨cs.toArray⟩ := by
  rw [TL.join_eq]
  have := join_signs0 cs
  generalize Str.join (Str.ofString "") (cs.map fun c => (⟨#[c]⟩ : Str)) = z at this ⊢
  obtain ⟨⟨l⟩⟩ := z
  simp at this
  rw [this]
theorem signs_of : ∀ {ds : List D}, (∀ d ∈ ds, ∃ c : Nat, d = .str ⟨#[c]⟩ ∧ c < 0x110000) → ∃ cs : List Nat, ds = (cs.map fun c => (⟨#[c]⟩ : Str)).map PyData.str ∧ ∀ c ∈ cs, c < 0x110000
  | [], _ => ⟨[], rfl, fun c h => nomatch h⟩
  | d :: ds, h => by
    obtain ⟨c, rfl, hc⟩ := h d (List.mem_cons_self ..)
    obtain ⟨cs, e, h2⟩ := signs_of fun e he => h e (List.mem_cons_of_mem _ he)
    refine ⟨c :: cs, by rw [e]; rfl, fun x hx => ?_⟩
    rcases List.mem_cons.mp hx with rfl | hx
    · exact hc
    · exact h2 x hx
def goodS (d : D) : Bool := match d with
  | .str z => decide (0 < z.length) && decide (z.length ≤ 100) && PyData.strOk z
  | _ => false
theorem goodS_of {d : D} (h : goodS d = true) : ∃ z, d = .str z ∧ 0 < z.length ∧ z.length ≤ 100 ∧ PyData.strOk z = true := by
  cases d with
  | str z =>
    simp only [goodS, Bool.and_eq_true, decide_eq_true_eq] at h
    exact ⟨z, rfl, h.1.1, h.1.2, h.2⟩
  | _ => cases h
def cString : Ct := fun rs n Q => rs = [.gen] ∧ n + 1000 ≤ 2 ^ 40 ∧ ∀ z n', z.length ≤ 24 → PyData.strOk z = true → n ≤ n' → n' ≤ n + 400 → Q (.fz (.str z)) n'
theorem ok_law_string (T : Txt K mg) : FnG P w K mg base CX0 4 T.a__law_string T.fd__law_string ["generator"] (liftSp K Gk cString) := by
  have h__law_random := fun {P w base} => ok_law_random (P := P) (w := w) (base := base) T
  have h__law_pick := fun {P w base} => ok_law_pick (P := P) (w := w) (base := base) T
  refine fn_ok (k := 3) T.F__law_string sc__law_string (fun rs n Q ⟨e, _⟩ => by rw [e]; rfl) (fun cdv A outer s H E g B F0 hgd hr => (pds_cons (pds_set (i := 1) sc__law_string.nd rfl (by first | exact Or.inl rfl | exact Or.inr rfl) (pd_call h__law_pick hgd (hr.mono (by decide)) (by rfl) T.g__law_pick T.F__law_pick.kp T.b__law_pick pass0 (pda_cons (pd_var (pv 0)) (pda_cons (pd_lst (pda_cons pd_str (pda_cons pd_str (pda_cons pd_str (pda_cons pd_str (pda_cons pd_str pda_nil)))))) pda_nil))))
      (pdss_frz 1 (pds_one (pds_ret (pd_join pd_str (pd_lc (own := [("turn", 2)]) rfl sc__law_string.nd (pdi_range1 (by rfl) T.z_range (pd_call h__law_random hgd (hr.mono (by decide)) (by rfl) T.g__law_random T.F__law_random.kp T.b__law_random pass0 (pda_cons (pd_var (pv 0)) (pda_cons pd_int pda_nil)))) (blkOk_by (N := ["generator", "signs", "turn"]) (sc := defScope s__law_string) (by decide +kernel)) (by decide) (fun _ _ _ _ _ => (pdg_name (pg_name (i := 2) sc__law_string.nd rfl (by first | exact Or.inl rfl | exact Or.inr rfl)))) (fun _ _ _ _ _ => pdts_nil) (fun _ _ _ _ _ => (pd_call h__law_pick hgd (hr.mono (by decide)) (by rfl) T.g__law_pick T.F__law_pick.kp T.b__law_pick pass0 (pda_cons (pd_var (pv 0)) (pda_cons (pd_var (pv 1)) pda_nil))))))))))) (fun rs n Q h _ => ?_)
  obtain ⟨rfl, hn, q⟩ := h
  have hs := sizeLine_eq
  refine seq_set fun C hC => ?_
  walk_at "dlx"
  refine ⟨by decide, stop_intro ⟨_, _, rfl, .inl rfl, ⟨by decide, by decide⟩, by omega, fun e he n1 h1 h2 => hC _ _ _ rfl ?_⟩⟩
  clear hC C
  have hg : goodS e = true := by
    revert e
    exact List.all_eq_true.mp (by decide +kernel)
  obtain ⟨z, rfl, z0, z1, zo⟩ := goodS_of hg
  walk_at "dlx"
  refine stop_intro ⟨24, rfl, ⟨by decide, by decide⟩, by omega, fun r n2 r0 r1 h3 h4 => ?_⟩
  walk_at "dlx"
  have hsl : (span 0 r.toNat).length = r.toNat := by simp [DL.span]
  refine ⟨⟨by omega, by omega⟩, by omega, stop_intro (compL_any (fun d => ∃ c : Nat, d = .str ⟨#[c]⟩ ∧ c < 0x110000) 10 (n2 + 240) _ n2 (by omega) (fun x hx n3 hn3 C hC => ?_) ?_)⟩
  · walk_at "dlx"
    refine stop_intro ⟨_, _, rfl, .inr ⟨z, rfl, rfl⟩, ⟨by simpa [DL.signs, Str.length] using z0, by simp [DL.signs, Str.length] at z1 ⊢; omega⟩, by omega, fun y hy n4 h5 h6 => hC _ _ ?_ h5 h6⟩
    obtain ⟨c, hc, rfl⟩ := List.mem_map.mp hy
    refine ⟨c, rfl, ?_⟩
    unfold PyData.strOk at zo
    rw [Array.all_eq_true'] at zo
    exact of_decide_eq_true (zo c (by simpa using hc))
  · intro ds n3 e1 e2 e3 e4
    obtain ⟨cs, rfl, hcs⟩ := signs_of e2
    rw [asStrs_map]
    have hl : cs.length ≤ 24 := by
      rw [List.length_map, List.length_map, hsl] at e1
      omega
    refine ⟨?_, ?_⟩
    · rw [List.length_map, List.map_map]
      have : (cs.map ((fun x : Str => x.length) ∘ fun c => (⟨#[c]⟩ : Str))).sum = cs.length := by
        clear e1 e2 hcs hl
        induction cs with
        | nil => rfl
        | cons c cs ih => rw [List.map_cons, List.sum_cons, ih, List.length_cons]; show 1 + cs.length = _; omega
      rw [this, show (Str.ofString "").length = 0 from rfl]
      omega
    · rw [join_signs]
      refine q _ _ (by simpa [Str.length] using hl) ?_ (by omega) (by omega)
      unfold PyData.strOk
      rw [Array.all_eq_true']
      intro c hc
      exact decide_eq_true (hcs c (by simpa using hc))
/-! ### numbers -/
def numD (d : D) : Prop := ∃ z : Int, d = .int z ∧ -1 ≤ z ∧ z < 10 ^ 11
def goodN (d : D) : Bool := match d with
  | .int z => decide (0 < z) && decide (z ≤ 10 ^ 11)
  | _ => false
theorem goodN_of {d : D} (h : goodN d = true) : ∃ z : Int, d = .int z ∧ 0 < z ∧ z ≤ 10 ^ 11 := by
  cases d with
  | int z =>
    simp only [goodN, Bool.and_eq_true, decide_eq_true_eq] at h
    exact ⟨z, rfl, h.1, h.2⟩
  | _ => cases h
def cNumbers : Ct := fun rs n Q => rs = [.gen] ∧ n + 1000 ≤ 2 ^ 40 ∧ ∀ ds n', ds.length ≤ 6 → (∀ d ∈ ds, numD d) → n ≤ n' → n' ≤ n + 400 → Q (.tmp ds) n'
theorem ok_law_numbers (T : Txt K mg) : FnG P w K mg base CX0 4 T.a__law_numbers T.fd__law_numbers ["generator"] (liftSp K Gk cNumbers) := by
  have h__law_random := fun {P w base} => ok_law_random (P := P) (w := w) (base := base) T
  have h__law_pick := fun {P w base} => ok_law_pick (P := P) (w := w) (base := base) T
  refine fn_ok (k := 3) T.F__law_numbers sc__law_numbers (fun rs n Q ⟨e, _⟩ => by rw [e]; rfl) (fun cdv A outer s H E g B F0 hgd hr => (pds_one (pds_ret (pd_lc (own := [("turn", 1)]) rfl sc__law_numbers.nd (pdi_range1 (by rfl) T.z_range (pd_call h__law_random hgd (hr.mono (by decide)) (by rfl) T.g__law_random T.F__law_random.kp T.b__law_random pass0 (pda_cons (pd_var (pv 0)) (pda_cons pd_int pda_nil)))) (blkOk_by (N := ["generator", "turn"]) (sc := defScope s__law_numbers) (by decide +kernel)) (by decide) (fun _ _ _ _ _ => (pdg_name (pg_name (i := 1) sc__law_numbers.nd rfl (by first | exact Or.inl rfl | exact Or.inr rfl)))) (fun _ _ _ _ _ => pdts_nil) (fun _ _ _ _ _ => (pd_bin od_sub (pd_call h__law_random hgd (hr.mono (by decide)) (by rfl) T.g__law_random T.F__law_random.kp T.b__law_random pass0 (pda_cons (pd_var (pv 0)) (pda_cons (pd_call h__law_pick hgd (hr.mono (by decide)) (by rfl) T.g__law_pick T.F__law_pick.kp T.b__law_pick pass0 (pda_cons (pd_var (pv 0)) (pda_cons (pd_lst (pda_cons pd_int (pda_cons pd_int (pda_cons (pd_bin od_pow pd_int pd_int) pda_nil)))) pda_nil))) pda_nil))) (pd_call h__law_random hgd (hr.mono (by decide)) (by rfl) T.g__law_random T.F__law_random.kp T.b__law_random pass0 (pda_cons (pd_var (pv 0)) (pda_cons pd_int pda_nil))))))))) (fun rs n Q h _ => ?_)
  obtain ⟨rfl, hn, q⟩ := h
  have hs := sizeLine_eq
  walk_at "dlx"
  refine stop_intro ⟨6, rfl, ⟨by decide, by decide⟩, by omega, fun r n2 r0 r1 h3 h4 => ?_⟩
  walk_at "dlx"
  have hsl : (span 0 r.toNat).length = r.toNat := by simp [DL.span]
  refine ⟨⟨by omega, by omega⟩, by omega, stop_intro (compL_any numD 30 (n2 + 180) _ n2 (by omega) (fun x hx n3 hn3 C hC => ?_) ?_)⟩
  · walk_at "dlx"
    refine ⟨cp_of (by decide) (by decide +kernel), by decide, stop_intro ⟨_, _, rfl, .inl rfl, ⟨by decide, by decide⟩, by omega, fun y hy n4 h5 h6 => ?_⟩⟩
    have hg : goodN y = true := by
      revert y
      exact List.all_eq_true.mp (by decide +kernel)
    obtain ⟨b, rfl, b0, b1⟩ := goodN_of hg
    walk_at "dlx"
    refine stop_intro ⟨b, rfl, ⟨by omega, by omega⟩, by omega, fun u n5 u0 u1 h7 h8 => ?_⟩
    walk_at "dlx"
    refine stop_intro ⟨2, rfl, ⟨by decide, by decide⟩, by omega, fun v n6 v0 v1 h9 h10 => ?_⟩
    walk_at "dlx"
    exact hC _ _ ⟨_, rfl, by omega, by omega⟩ (by omega) (by omega)
  · intro ds n3 e1 e2 e3 e4
    exact q ds n3 (by omega) e2 (by omega) (by omega)
end
end K02

namespace K02
open PySem PySem.Spec PyProof.Rows L2 DL
local macro_rules | `(tactic| walk_at "dlx") => `(tactic| simp only [↓reduceIte, ↓DL.isNon, ↓DL.wNever, ↓DL.wSeq, ↓DL.wIf, ↓DL.wOr, ↓DL.wAnd, ↓DL.wNot, ↓DL.wB, ↓DL.wIsi, ↓DL.wVar, ↓DL.wC, ↓DL.wBin, ↓DL.wUn, ↓DL.wChain, ↓DL.wAndV, ↓DL.wOrV, ↓DL.wNotV, ↓DL.wRet, ↓DL.wRetN, ↓DL.wSkip, ↓DL.wCB, ↓DL.wCons, ↓DL.wNil, ↓DL.wCall, ↓DL.wSet, ↓DL.wFrz, ↓DL.frz, ↓DL.rho0, ↓DL.wLst, ↓DL.wTup, ↓DL.wComp, ↓DL.wiAny, ↓DL.walk, ↓DL.wSl, ↓DL.woNone, ↓DL.woSome, ↓DL.wIfE, ↓DL.RV.slot, ↓DL.RV.rd, ↓DL.RV.fr, ↓DL.RV.isFz, ↓DL.RV.un, ↓DL.RV.arg, ↓DL.RV.ret, ↓DL.RV.ev, ↓DL.EV.rv, ↓DL.o1, ↓DL.oLen, ↓DL.oAll, ↓DL.oAny, ↓DL.oIx, ↓DL.oCut, ↓DL.oEq, ↓DL.oIn, ↓DL.oOrd, ↓DL.oLt, ↓DL.oLe, ↓DL.oGt, ↓DL.oGe, ↓DL.oIs, ↓DL.oAdd, ↓DL.oSub, ↓DL.oInt, ↓DL.oMul, ↓DL.oMod, ↓DL.oDiv, ↓DL.oPow, ↓DL.oNeg, ↓DL.oRepr, ↓DL.oTuple, ↓DL.oList, ↓DL.oIntOf, ↓DL.oStrOf, ↓DL.oMax2, ↓DL.wgN, ↓DL.wiRng1, ↓DL.wiRng2, ↓DL.wiZip, ↓DL.wgTup, ↓DL.wgCons, ↓DL.wgNil, ↓DL.wIfE, ↓DL.wDict1, ↓DL.wDget, ↓DL.wiKeys, ↓DL.oDictOf, ↓DL.wCallK, ↓DL.pick, ↓DL.wipeR, ↓DL.oLenS, ↓DL.oIxS, ↓DL.wGix, ↓DL.wGset, ↓DL.wBits, ↓DL.wFor, ↓DL.oCutS, ↓DL.oSum, ↓DL.wApp, ↓DL.wJoin, ↓DL.wDrop, ↓DL.wPass, ↓DL.wRev,
  List.getElem?_cons_zero, List.getElem?_cons_succ, List.map_cons, List.map_nil, List.length_cons, List.length_nil, List.replicate, List.cons_append, List.nil_append, List.append_nil, List.all_cons, List.all_nil, List.set_cons_zero, List.set_cons_succ, List.set_nil,
  Bool.and_true, Bool.true_and, if_true, if_false, Bool.false_eq_true, Bool.not_true, Bool.not_false, true_and, and_true, ↓DL.isOf])
section
variable {P : Program} {w : World} {K : PySem.W.Frag} {mg : Str → Option Value} {base : Heap}
def smallD (d : D) : Prop := d = .none ∨ (∃ z : Int, d = .int z ∧ z.natAbs < 10 ^ 20) ∨ ∃ s : Str, d = .str s ∧ s.length ≤ 100 ∧ PyData.strOk s = true
structure Facts (d : D) : Prop where
  sh : d.showable = true
  dp : d.depth ≤ 1
  ln : d.shown.length ≤ 1002
  fl : flatD d = true
  sp : SeqAt.shaped d = true
  ok : okT d
theorem facts_of {d : D} (h : smallD d) : Facts d := by
  have hs := sizeLine_eq
  rcases h with rfl | ⟨z, rfl, hz⟩ | ⟨s, rfl, hl, ho⟩
  · exact ⟨rfl, by decide, by decide, rfl, by decide, fun z e => by cases e⟩
  · refine ⟨show_int (Nat.lt_trans hz (by decide +kernel)), by simp [PyData.depth], ?_, rfl, shaped_int z, fun z e => by cases e⟩
    have := shown_int (k := 20) (by decide) hz
    omega
  · refine ⟨by simp [PyData.showable], by simp [PyData.depth], ?_, rfl, shaped_str ho, fun z e => by cases e; exact ⟨by omega, ho⟩⟩
    have := shown_str ho
    omega
theorem flats_of {ds : List D} (h : ∀ d ∈ ds, flatD d = true) : flatDs ds = true := by
  induction ds with
  | nil => rfl
  | cons d ds ih =>
    show (flatD d && flatDs ds) = true
    rw [h d (List.mem_cons_self ..), ih fun e he => h e (List.mem_cons_of_mem _ he)]
    rfl
theorem repr_flat {d : D} (h : flatD d = true) : reprOk d = true := by
  unfold reprOk
  rw [h, Bool.true_or]
theorem okJ_small {d : D} (h : smallD d) : okJ d := by
  have f := facts_of h
  have hs := sizeLine_eq
  have := f.dp
  have := f.ln
  refine ⟨⟨repr_flat f.fl, f.sh, by omega, by omega⟩, f.ok, fun ds e => ?_⟩
  subst e
  rcases h with h | ⟨_, h, _⟩ | ⟨_, h, _⟩ <;> cases h
theorem okJ_list {ds : List D} (h : ∀ d ∈ ds, smallD d) (hl : ds.length ≤ 1000) : okJ (.list ds) := by
  have hs := sizeLine_eq
  refine ⟨⟨repr_flat (flats_of fun d hd => (facts_of (h d hd)).fl), ?_, ?_, ?_⟩, fun z e => (by cases e), fun es e => ?_⟩
  · simpa [PyData.showable] using show_all fun d hd => (facts_of (h d hd)).sh
  · have := depth_all fun d hd => (facts_of (h d hd)).dp
    simp only [PyData.depth]
    omega
  · have := shown_list fun d hd => (facts_of (h d hd)).ln
    have : ds.length * (1002 + 2) ≤ 1000 * (1002 + 2) := Nat.mul_le_mul_right _ hl
    omega
  · cases e
    exact ⟨by omega, shaped_list (fun d hd => (facts_of (h d hd)).sp) (fun d hd => Nat.le_trans (facts_of (h d hd)).dp (by decide)), fun d hd => (facts_of (h d hd)).ok⟩
theorem okJ_tuple {ds : List D} (h : ∀ d ∈ ds, smallD d) (hl : ds.length ≤ 1000) : okJ (.tuple ds) := by
  have hs := sizeLine_eq
  refine ⟨⟨repr_flat (flats_of fun d hd => (facts_of (h d hd)).fl), ?_, ?_, ?_⟩, fun z e => (by cases e), fun es e => (by cases e)⟩
  · simpa [PyData.showable] using show_all fun d hd => (facts_of (h d hd)).sh
  · have := depth_all fun d hd => (facts_of (h d hd)).dp
    simp only [PyData.depth]
    omega
  · have := shown_tuple fun d hd => (facts_of (h d hd)).ln
    have : ds.length * (1002 + 2) ≤ 1000 * (1002 + 2) := Nat.mul_le_mul_right _ hl
    omega
theorem small_num {d : D} (h : numD d) : smallD d := by
  obtain ⟨z, rfl, h1, h2⟩ := h
  exact .inr (.inl ⟨z, rfl, by omega⟩)
def okTb (d : D) : Bool := match d with
  | .str z => decide (z.length ≤ sizeLine) && PyData.strOk z
  | _ => true
def okJb (d : D) : Bool := reprOk d && (d.showable && (decide (d.depth ≤ 100) && (decide (d.shown.length ≤ sizeLine) && (okTb d && (match d with
  | .list ds => decide (ds.length ≤ sizeLine) && (SeqAt.shaped (.list ds) && ds.all okTb)
  | _ => true)))))
theorem okT_of {d : D} (h : okTb d = true) : okT d := fun z e => by
  subst e
  simpa [okTb] using h
theorem okJ_of {d : D} (h : okJb d = true) : okJ d := by
  unfold okJb at h
  simp only [Bool.and_eq_true, decide_eq_true_eq] at h
  obtain ⟨h1, h2, h3, h4, h5, h6⟩ := h
  refine ⟨⟨h1, h2, h3, h4⟩, okT_of h5, fun ds e => ?_⟩
  subst e
  simp only [Bool.and_eq_true, decide_eq_true_eq, List.all_eq_true] at h6
  exact ⟨h6.1, h6.2.1, fun e he => okT_of (h6.2.2 e he)⟩
def cAny : Ct := fun rs n Q => rs = [.gen] ∧ n + 1000 ≤ 2 ^ 40 ∧ ∀ (r : RV) d n', r.fr = .fz d → okJ d → n ≤ n' → n' ≤ n + 10 → Q r n'
theorem ok_law_any (T : Txt K mg) : FnG P w K mg base CX0 4 T.a__law_any T.fd__law_any ["generator"] (liftSp K Gk cAny) := by
  have h__law_copied := fun {P w base} => ok_law_copied (P := P) (w := w) (base := base) T 3
  have h__law_pick := fun {P w base} => ok_law_pick (P := P) (w := w) (base := base) T
  refine fn_ok (k := 3) T.F__law_any sc__law_any (fun rs n Q ⟨e, _⟩ => by rw [e]; rfl) (fun cdv A outer s H E g B F0 hgd hr => (pds_cons (pds_set (i := 1) sc__law_any.nd rfl (by first | exact Or.inl rfl | exact Or.inr rfl) (pd_lst (pda_cons pd_non (pda_cons pd_bl (pda_cons pd_bl (pda_cons pd_int (pda_cons pd_int (pda_cons (pd_un ud_neg pd_int) (pda_cons (pd_bin od_pow pd_int pd_int) (pda_cons pd_str (pda_cons pd_str (pda_cons pd_str (pda_cons pd_str (pda_cons pd_str (pda_cons pd_str (pda_cons pd_str (pda_cons pd_str (pda_cons pd_str (pda_cons (pd_bin od_mul pd_str pd_int) (pda_cons (pd_bin od_mul pd_str pd_int) (pda_cons pd_str (pda_cons pd_str pda_nil))))))))))))))))))))))
      (pds_cons (pds_set (i := 1) sc__law_any.nd rfl (by first | exact Or.inl rfl | exact Or.inr rfl) (pd_bin od_add (pd_var (pv 1)) (pd_lst (pda_cons (pd_lst pda_nil) (pda_cons (pd_tup pda_nil) (pda_cons pd_dict0 (pda_cons (pd_lst (pda_cons pd_int pda_nil)) (pda_cons (pd_lst (pda_cons pd_int (pda_cons pd_int pda_nil))) (pda_cons (pd_lst (pda_cons pd_int (pda_cons pd_str pda_nil))) (pda_cons (pd_lst (pda_cons pd_str (pda_cons pd_int pda_nil))) (pda_cons (pd_lst (pda_cons pd_non (pda_cons pd_int pda_nil))) (pda_cons (pd_lst (pda_cons pd_int (pda_cons (pd_lst (pda_cons pd_int pda_nil)) pda_nil))) (pda_cons (pd_lst (pda_cons pd_int (pda_cons (pd_tup (pda_cons pd_int pda_nil)) pda_nil))) (pda_cons (pd_lst (pda_cons pd_bl pda_nil)) (pda_cons (pd_lst (pda_cons pd_int (pda_cons pd_int pda_nil))) (pda_cons (pd_lst (pda_cons pd_int (pda_cons pd_int pda_nil))) (pda_cons (pd_tup (pda_cons pd_int (pda_cons pd_int pda_nil))) (pda_cons (pd_lst (pda_cons pd_str pda_nil)) (pda_cons (pd_lst (pda_cons (pd_lst pda_nil) pda_nil)) pda_nil)))))))))))))))))))
      (pds_cons (pds_set (i := 1) sc__law_any.nd rfl (by first | exact Or.inl rfl | exact Or.inr rfl) (pd_bin od_add (pd_var (pv 1)) (pd_lst (pda_cons (pd_dict1 pd_int pe_str) (pda_cons (pd_lst (pda_cons pd_int (pda_cons pd_int (pda_cons (pd_bin od_pow pd_int pd_int) pda_nil)))) (pda_cons (pd_lst (pda_cons (pd_un ud_neg pd_int) pda_nil)) (pda_cons pd_str (pda_cons pd_str (pda_cons (pd_bin od_mul pd_str pd_int) (pda_cons pd_str (pda_cons pd_str (pda_cons pd_str (pda_cons (pd_tup (pda_cons pd_str pda_nil)) pda_nil)))))))))))))
      (pdss_frz 1 (pds_one (pds_ret (pd_call h__law_copied hgd (hr.mono (by decide)) (by rfl) T.g__law_copied T.F__law_copied.kp T.b__law_copied pass0 (pda_cons (pd_call h__law_pick hgd (hr.mono (by decide)) (by rfl) T.g__law_pick T.F__law_pick.kp T.b__law_pick pass0 (pda_cons (pd_var (pv 0)) (pda_cons (pd_var (pv 1)) pda_nil))) pda_nil))))))))) (fun rs n Q h _ => ?_)
  obtain ⟨rfl, hn, q⟩ := h
  have hs := sizeLine_eq
  refine seq_set fun C hC => ?_
  walk_at "dlx"
  refine ⟨cp_of (by decide) (by decide +kernel), ⟨by decide, by decide, by decide⟩, ⟨by decide, by decide, by decide⟩, by decide, hC _ _ _ rfl ?_⟩
  clear hC C
  refine seq_set fun C hC => ?_
  walk_at "dlx"
  repeat (refine And.intro (by decide) ?_)
  refine hC _ _ _ rfl ?_
  clear hC C
  refine seq_set fun C hC => ?_
  walk_at "dlx"
  repeat (first | refine And.intro (cp_of (by decide) (by decide +kernel)) ?_ | refine And.intro (by decide) ?_)
  refine hC _ _ _ rfl ?_
  clear hC C
  walk_at "dlx"
  refine stop_intro ⟨_, _, rfl, .inl rfl, ⟨by decide, by decide⟩, by omega, fun e he n1 h1 h2 => ?_⟩
  have hg : (copyB 3 e && okJb e) = true := by
    revert e
    exact List.all_eq_true.mp (by decide +kernel)
  rw [Bool.and_eq_true] at hg
  have hj := okJ_of hg.2
  have hc := hg.1
  clear hg he
  exact ⟨rfl, e, rfl, hc, q _ e n1 (by cases e <;> rfl) hj h1 h2⟩
end
end K02

namespace K02
open PySem PySem.Spec PyProof.Rows L2 DL
local macro_rules | `(tactic| walk_at "dlx") => `(tactic| simp only [↓reduceIte, ↓DL.isNon, ↓DL.wNever, ↓DL.wSeq, ↓DL.wIf, ↓DL.wOr, ↓DL.wAnd, ↓DL.wNot, ↓DL.wB, ↓DL.wIsi, ↓DL.wVar, ↓DL.wC, ↓DL.wBin, ↓DL.wUn, ↓DL.wChain, ↓DL.wAndV, ↓DL.wOrV, ↓DL.wNotV, ↓DL.wRet, ↓DL.wRetN, ↓DL.wSkip, ↓DL.wCB, ↓DL.wCons, ↓DL.wNil, ↓DL.wCall, ↓DL.wSet, ↓DL.wFrz, ↓DL.frz, ↓DL.rho0, ↓DL.wLst, ↓DL.wTup, ↓DL.wComp, ↓DL.wiAny, ↓DL.walk, ↓DL.wSl, ↓DL.woNone, ↓DL.woSome, ↓DL.wIfE, ↓DL.RV.slot, ↓DL.RV.rd, ↓DL.RV.fr, ↓DL.RV.isFz, ↓DL.RV.un, ↓DL.RV.arg, ↓DL.RV.ret, ↓DL.RV.ev, ↓DL.EV.rv, ↓DL.o1, ↓DL.oLen, ↓DL.oAll, ↓DL.oAny, ↓DL.oIx, ↓DL.oCut, ↓DL.oEq, ↓DL.oIn, ↓DL.oOrd, ↓DL.oLt, ↓DL.oLe, ↓DL.oGt, ↓DL.oGe, ↓DL.oIs, ↓DL.oAdd, ↓DL.oSub, ↓DL.oInt, ↓DL.oMul, ↓DL.oMod, ↓DL.oDiv, ↓DL.oPow, ↓DL.oNeg, ↓DL.oRepr, ↓DL.oTuple, ↓DL.oList, ↓DL.oIntOf, ↓DL.oStrOf, ↓DL.oMax2, ↓DL.wgN, ↓DL.wiRng1, ↓DL.wiRng2, ↓DL.wiZip, ↓DL.wgTup, ↓DL.wgCons, ↓DL.wgNil, ↓DL.wIfE, ↓DL.wDict1, ↓DL.wDget, ↓DL.wiKeys, ↓DL.oDictOf, ↓DL.wCallK, ↓DL.pick, ↓DL.wipeR, ↓DL.oLenS, ↓DL.oIxS, ↓DL.wGix, ↓DL.wGset, ↓DL.wBits, ↓DL.wFor, ↓DL.oCutS, ↓DL.oSum, ↓DL.wApp, ↓DL.wJoin, ↓DL.wDrop, ↓DL.wPass, ↓DL.wRev,
  List.getElem?_cons_zero, List.getElem?_cons_succ, List.map_cons, List.map_nil, List.length_cons, List.length_nil, List.replicate, List.cons_append, List.nil_append, List.append_nil, List.all_cons, List.all_nil, List.set_cons_zero, List.set_cons_succ, List.set_nil,
  Bool.and_true, Bool.true_and, if_true, if_false, Bool.false_eq_true, Bool.not_true, Bool.not_false, true_and, and_true, ↓DL.isOf])
section
variable {P : Program} {w : World} {K : PySem.W.Frag} {mg : Str → Option Value} {base : Heap}
def smallB (d : D) : Bool := match d with
  | .none => true
  | .int z => decide (z.natAbs < 10 ^ 20)
  | .str s => decide (s.length ≤ 100) && PyData.strOk s
  | _ => false
theorem smallD_of {d : D} (h : smallB d = true) : smallD d := by
  cases d with
  | none => exact .inl rfl
  | int z => exact .inr (.inl ⟨z, rfl, by simpa [smallB] using h⟩)
  | str s => exact .inr (.inr ⟨s, rfl, by simpa [smallB] using h⟩)
  | _ => cases h
theorem setD_nums {ds : List D} (h : ∀ d ∈ ds, numD d) : ∃ ns : List Int, ds = ns.map PyData.int := by
  induction ds with
  | nil => exact ⟨[], rfl⟩
  | cons d ds ih =>
    obtain ⟨ns, e⟩ := ih fun x hx => h x (List.mem_cons_of_mem _ hx)
    obtain ⟨z, rfl, _⟩ := h d (List.mem_cons_self ..)
    exact ⟨z :: ns, by rw [e]; rfl⟩
theorem setD_names {ds : List D} (h : ds.all nameD = true) (hs : ∀ d ∈ ds, smallD d) (hl : ds.length < 64) : setD ds := by
  obtain ⟨ss, rfl⟩ := names_strs h
  refine .inr ⟨ss, rfl, by rw [List.length_map] at hl; exact hl, fun z hz => ?_⟩
  exact ((facts_of (hs (.str z) (List.mem_map.mpr ⟨z, hz, rfl⟩))).ok z rfl).2
theorem split12 {t : Rho} (h : t.length = 12) : ∃ a b c d e f g i j k l m, t = [a, b, c, d, e, f, g, i, j, k, l, m] := by
  match t, h with
  | [a, b, c, d, e, f, g, i, j, k, l, m], _ => exact ⟨a, b, c, d, e, f, g, i, j, k, l, m, rfl⟩
theorem split14 {t : Rho} (h : t.length = 14) : ∃ o p t', t = o :: p :: t' ∧ t'.length = 12 := by
  match t, h with
  | o :: p :: t', h => exact ⟨o, p, t', rfl, by simpa using h⟩
theorem join12 {ρ : Rho} {a b c : Option EV} {t : Rho} (h : t.length = 12) (e : ρ = a :: b :: c :: t) : True := trivial
def manyD (i : Nat) : D := .str (Str.ofString "n" ++ Str.ofString (toString (10 + (0 + (i : Int)))))
def manyOk (i : Nat) : Bool := decide ((10 + (0 + (i : Int))).natAbs.log2 < 1920) && decide ((Str.ofString "n").length + (Str.ofString (toString (10 + (0 + (i : Int))))).length ≤ sizeLine) && smallB (manyD i)
def cLaw : Ct := fun rs n Q => ∃ ns, rs = [.scr ns] ∧ n ≤ 2 ^ 30 ∧ Q (.fz (.bool true)) n
theorem ok_law (T : Txt K mg) : FnG P w K mg base CX0 5 T.a_law T.fd_law ["script"] (liftSp0 K Gk cLaw) := by
  have h__law_generator := fun {P w base} => ok_law_generator (P := P) (w := w) (base := base) T
  have h__law_random := fun {P w base} => ok_law_random (P := P) (w := w) (base := base) T
  have h__law_pick := fun {P w base} => ok_law_pick (P := P) (w := w) (base := base) T
  have h__law_numbers := fun {P w base} => ok_law_numbers (P := P) (w := w) (base := base) T
  have h__law_string := fun {P w base} => ok_law_string (P := P) (w := w) (base := base) T
  have h__law_any := fun {P w base} => ok_law_any (P := P) (w := w) (base := base) T
  have h__law_name := fun {P w base} => ok_law_name (P := P) (w := w) (base := base) T
  have h__law_unlike := fun {P w base} => ok_law_unlike (P := P) (w := w) (base := base) T
  have h__law_judged := fun {P w base} => ok_law_judged (P := P) (w := w) (base := base) T
  refine fn_ok0 (k := 4) T.F_law sc_law (fun rs n Q ⟨_, e, _⟩ => by rw [e]; rfl) (fun cdv A outer s H E B F0 hgd hr => (pds_cons (pds_for PassesOwn.never rfl (pdi_range1 (by rfl) T.z_range pd_int) (pdg_name (pg_name (i := 1) sc_law.nd rfl (by first | exact Or.inl rfl | exact Or.inr rfl))) (pdss_frz 1 (pds_cons (pds_set (i := 2) sc_law.nd rfl (by first | exact Or.inl rfl | exact Or.inr rfl) (pd_call h__law_generator hgd (hr.mono (by decide)) (by rfl) T.g__law_generator T.F__law_generator.kp T.b__law_generator pass0 (pda_cons (pd_var (pv 0)) (pda_cons (pd_var (pv 1)) pda_nil))))
      (pdss_gen 2 (fun pg => (pds_one (pds_for PassesOwn.never rfl (pdi_range1 (by rfl) T.z_range pd_int) (pdg_name (pg_name (i := 3) sc_law.nd rfl (by first | exact Or.inl rfl | exact Or.inr rfl))) (pds_cons (pds_set (i := 4) sc_law.nd rfl (by first | exact Or.inl rfl | exact Or.inr rfl) (pd_call h__law_numbers hgd (hr.mono (by decide)) (by rfl) T.g__law_numbers T.F__law_numbers.kp T.b__law_numbers pass0 (pda_cons (pd_var (pv 2)) pda_nil)))
      (pds_cons (pds_set (i := 5) sc_law.nd rfl (by first | exact Or.inl rfl | exact Or.inr rfl) (pd_lst (pda_cons pd_str (pda_cons pd_str (pda_cons pd_str (pda_cons pd_str (pda_cons pd_str (pda_cons pd_str (pda_cons pd_str (pda_cons pd_str (pda_cons pd_str (pda_cons pd_str (pda_cons pd_int (pda_cons pd_non (pda_cons pd_str (pda_cons pd_str (pda_cons pd_str (pda_cons pd_str (pda_cons pd_str (pda_cons pd_str (pda_cons pd_str (pda_cons pd_str pda_nil))))))))))))))))))))))
      (pdss_frz 5 (pds_cons (pds_setLc (i := 6) (own := [("at", 13)]) rfl sc_law.nd rfl rfl (sw_true rfl rfl rfl (by decide +kernel)) (pdi_range1 (by rfl) T.z_range (pd_call h__law_random hgd (hr.mono (by decide)) (by rfl) T.g__law_random T.F__law_random.kp T.b__law_random pass0 (pda_cons (pd_var (pv 2)) (pda_cons pd_int pda_nil)))) (blkOk_by (N := ["script", "index", "generator", "turn", "numbers", "menu", "names", "good", "lists", "value", "many", "due", "rest", "at", "name"]) (sc := defScope s_law) (by decide +kernel)) (by decide) (fun _ _ _ _ _ => (pdg_name (pg_name (i := 13) sc_law.nd rfl (by first | exact Or.inl rfl | exact Or.inr rfl)))) (fun _ _ _ _ _ => pdts_nil) (fun _ _ _ _ _ => (pd_call h__law_pick hgd (hr.mono (by decide)) (by rfl) T.g__law_pick T.F__law_pick.kp T.b__law_pick pass0 (pda_cons (pd_var (pv 2)) (pda_cons (pd_var (pv 5)) pda_nil)))))
      (pdss_frz 6 (pds_cons (pds_setLc (i := 7) (own := [("name", 14)]) rfl sc_law.nd rfl rfl (sw_true rfl rfl rfl (by decide +kernel)) (pdi_any (pd_var (pv 6))) (blkOk_by (N := ["script", "index", "generator", "turn", "numbers", "menu", "names", "good", "lists", "value", "many", "due", "rest", "at", "name"]) (sc := defScope s_law) (by decide +kernel)) (by decide) (fun _ _ _ _ _ => (pdg_name (pg_name (i := 14) sc_law.nd rfl (by first | exact Or.inl rfl | exact Or.inr rfl)))) (fun _ _ _ _ _ => (pdts_one (PW.pt (pdw_and (pdt_val (pd_isi .str (by rfl) T.z_isinstance (by rfl) T.z_str (by decide +kernel) (pd_var (pv 14)))) (pdw_and1 (pdt_val (pd_call h__law_name hgd (hr.mono (by decide)) (by rfl) T.g__law_name T.F__law_name.kp T.b__law_name pass0 (pda_cons (pd_var (pv 14)) pda_nil)))))))) (fun _ _ _ _ _ => (pd_var (pv 14))))
      (pdss_frz 7 (pdss_frz 6 (pds_cons (pds_set (i := 8) sc_law.nd rfl (by first | exact Or.inl rfl | exact Or.inr rfl) (pd_lst (pda_cons (pd_var (pv 6)) (pda_cons (pd_var (pv 7)) (pda_cons (pd_callB cd_sorted (by rfl) T.z_sorted (by decide +kernel) (pda_cons (pd_var (pv 7)) pda_nil)) (pda_cons (pd_call h__law_unlike hgd (hr.mono (by decide)) (by rfl) T.g__law_unlike T.F__law_unlike.kp T.b__law_unlike pass0 (pda_cons (pd_var (pv 7)) pda_nil)) (pda_cons (pd_callTy cd_tuple (by rfl) T.z_tuple (by decide +kernel) (pda_cons (pd_call h__law_unlike hgd (hr.mono (by decide)) (by rfl) T.g__law_unlike T.F__law_unlike.kp T.b__law_unlike pass0 (pda_cons (pd_var (pv 7)) pda_nil)) pda_nil)) (pda_cons (pd_slice sd_cut (pd_call h__law_unlike hgd (hr.mono (by decide)) (by rfl) T.g__law_unlike T.F__law_unlike.kp T.b__law_unlike pass0 (pda_cons (pd_var (pv 7)) pda_nil)) pdo_none (pdo_some pd_int)) (pda_cons (pd_rev (pd_call h__law_unlike hgd (hr.mono (by decide)) (by rfl) T.g__law_unlike T.F__law_unlike.kp T.b__law_unlike pass0 (pda_cons (pd_var (pv 7)) pda_nil))) pda_nil)))))))))
      (pdss_frz 4 (pds_one (pds_for PassesOwn.never rfl (pdi_any (pd_bin od_add (pd_lst (pda_cons (pd_call h__law_any hgd (hr.mono (by decide)) (by rfl) T.g__law_any T.F__law_any.kp T.b__law_any pass0 (pda_cons (pd_var (pv 2)) pda_nil)) (pda_cons (pd_call h__law_string hgd (hr.mono (by decide)) (by rfl) T.g__law_string T.F__law_string.kp T.b__law_string pass0 (pda_cons (pd_var (pv 2)) pda_nil)) (pda_cons (pd_var (pv 4)) (pda_cons (pd_callB cd_sorted (by rfl) T.z_sorted (by decide +kernel) (pda_cons (pd_var (pv 4)) pda_nil)) (pda_cons (pd_call h__law_unlike hgd (hr.mono (by decide)) (by rfl) T.g__law_unlike T.F__law_unlike.kp T.b__law_unlike pass0 (pda_cons (pd_var (pv 4)) pda_nil)) (pda_cons (pd_callTy cd_tuple (by rfl) T.z_tuple (by decide +kernel) (pda_cons (pd_call h__law_unlike hgd (hr.mono (by decide)) (by rfl) T.g__law_unlike T.F__law_unlike.kp T.b__law_unlike pass0 (pda_cons (pd_var (pv 4)) pda_nil)) pda_nil)) pda_nil))))))) (pd_var (pv 8)))) (pdg_name (pg_name (i := 9) sc_law.nd rfl (by first | exact Or.inl rfl | exact Or.inr rfl))) (pdss_frz 9 (pds_one (pds_if (pdt_not (pdt_val (pd_call h__law_judged hgd (hr.mono (by decide)) (by rfl) T.g__law_judged T.F__law_judged.kp T.b__law_judged pass0 (pda_cons (pd_var (pv 9)) pda_nil)))) (pds_one (pds_ret pd_bl)) pds_nil))))))))))))))))))))))
      (pds_cons (pds_setLc (i := 10) (own := [("at", 13)]) rfl sc_law.nd rfl rfl (sw_true rfl rfl rfl (by decide +kernel)) (pdi_range1 (by rfl) T.z_range pd_int) (blkOk_by (N := ["script", "index", "generator", "turn", "numbers", "menu", "names", "good", "lists", "value", "many", "due", "rest", "at", "name"]) (sc := defScope s_law) (by decide +kernel)) (by decide) (fun _ _ _ _ _ => (pdg_name (pg_name (i := 13) sc_law.nd rfl (by first | exact Or.inl rfl | exact Or.inr rfl)))) (fun _ _ _ _ _ => pdts_nil) (fun _ _ _ _ _ => (pd_bin od_add pd_str (pd_callTy cd_strOf (by rfl) T.z_str (by decide +kernel) (pda_cons (pd_bin od_add pd_int (pd_var (pv 13))) pda_nil)))))
      (pdss_frz 10 (pdss_frz 9 (pds_cons (pds_setLc (i := 11) (own := [("value", 9)]) rfl sc_law.nd rfl rfl (sw_true rfl rfl rfl (by decide +kernel)) (pdi_any (pd_lst (pda_cons (pd_var (pv 10)) (pda_cons (pd_bin od_add (pd_slice sd_cut (pd_var (pv 10)) pdo_none (pdo_some pd_int)) (pd_lst (pda_cons (pd_ix id_ix (pd_var (pv 10)) pd_int (fun _ _ => rfl)) (pda_cons (pd_ix id_ix (pd_var (pv 10)) pd_int (fun _ _ => rfl)) pda_nil)))) (pda_cons (pd_bin od_add (pd_slice sd_cut (pd_var (pv 10)) pdo_none (pdo_some pd_int)) (pd_lst (pda_cons (pd_ix id_ix (pd_var (pv 10)) pd_int (fun _ _ => rfl)) pda_nil))) (pda_cons (pd_bin od_add (pd_var (pv 10)) (pd_lst (pda_cons pd_str pda_nil))) pda_nil)))))) (blkOk_by (N := ["script", "index", "generator", "turn", "numbers", "menu", "names", "good", "lists", "value", "many", "due", "rest", "at", "name"]) (sc := defScope s_law) (by decide +kernel)) (by decide) (fun _ _ _ _ _ => (pdg_name (pg_name (i := 9) sc_law.nd rfl (by first | exact Or.inl rfl | exact Or.inr rfl)))) (fun _ _ _ _ _ => pdts_nil) (fun _ _ _ _ _ => (pd_call h__law_judged hgd (hr.mono (by decide)) (by rfl) T.g__law_judged T.F__law_judged.kp T.b__law_judged pass0 (pda_cons (pd_var (pv 9)) pda_nil))))
      (pds_cons (pds_set (i := 12) sc_law.nd rfl (by first | exact Or.inl rfl | exact Or.inr rfl) (pd_lst (pda_cons (pd_lst (pda_cons pd_int (pda_cons pd_str pda_nil))) (pda_cons (pd_lst (pda_cons pd_str (pda_cons pd_int pda_nil))) (pda_cons (pd_lst (pda_cons pd_non (pda_cons pd_int pda_nil))) (pda_cons (pd_lst (pda_cons pd_int (pda_cons (pd_lst (pda_cons pd_int pda_nil)) pda_nil))) (pda_cons pd_int (pda_cons (pd_bin od_pow pd_int pd_int) (pda_cons pd_bl (pda_cons (pd_un ud_neg pd_int) (pda_cons (pd_bin od_mul pd_str pd_int) (pda_cons (pd_bin od_mul pd_str pd_int) (pda_cons pd_str (pda_cons pd_str (pda_cons (pd_lst pda_nil) (pda_cons (pd_lst (pda_cons pd_int pda_nil)) (pda_cons (pd_lst (pda_cons pd_int (pda_cons (pd_bin od_pow pd_int pd_int) pda_nil))) (pda_cons (pd_lst (pda_cons pd_bl pda_nil)) pda_nil))))))))))))))))))
      (pdss_frz 9 (pds_cons (pds_set (i := 11) sc_law.nd rfl (by first | exact Or.inl rfl | exact Or.inr rfl) (pd_bin od_add (pd_var (pv 11)) (pd_lc (own := [("value", 9)]) rfl sc_law.nd (pdi_any (pd_bin od_add (pd_var (pv 12)) (pd_lst (pda_cons (pd_lst (pda_cons pd_int (pda_cons pd_int pda_nil))) (pda_cons (pd_lst (pda_cons pd_int (pda_cons pd_int pda_nil))) (pda_cons pd_int (pda_cons pd_int (pda_cons pd_int (pda_cons pd_int (pda_cons pd_int (pda_cons pd_str (pda_cons (pd_tup (pda_cons pd_int pda_nil)) (pda_cons pd_bl pda_nil))))))))))))) (blkOk_by (N := ["script", "index", "generator", "turn", "numbers", "menu", "names", "good", "lists", "value", "many", "due", "rest", "at", "name"]) (sc := defScope s_law) (by decide +kernel)) (by decide) (fun _ _ _ _ _ => (pdg_name (pg_name (i := 9) sc_law.nd rfl (by first | exact Or.inl rfl | exact Or.inr rfl)))) (fun _ _ _ _ _ => pdts_nil) (fun _ _ _ _ _ => (pd_call h__law_judged hgd (hr.mono (by decide)) (by rfl) T.g__law_judged T.F__law_judged.kp T.b__law_judged pass0 (pda_cons (pd_var (pv 9)) pda_nil))))))
      (pds_one (pds_ret (pd_cmp (od_notin (hu65 hr)) pd_bl (pd_var (pv 11)) (by first | exact nomark _ | rfl))))))))))))) (fun rs n Q h _ => ?_)
  obtain ⟨ns, rfl, hn, q⟩ := h
  have hs := sizeLine_eq
  refine seq_forD fun C hC => ?_
  refine ⟨⟨by decide, by decide⟩, hC _ _ fun DD hnx hrt' => ?_⟩
  clear hC C
  refine forL_inv _ (fun j ρ n' => n' = n ∧ ∃ t : Rho, t.length = 14 ∧ (∀ x ∈ t, x ≠ some EV.gen) ∧ ρ = some (.scr ns) :: t) ?_ wgN_mono ⟨rfl, _, rfl, by simp, rfl⟩ ?_
  · rintro j x ρ n' hx ⟨rfl, t, ht, hg, rfl⟩
    obtain ⟨o, p, t, rfl, ht2⟩ := split14 ht
    have hj := (List.getElem?_eq_some_iff.mp hx).1
    have hj3 : j < 3 := hj
    have ex : x = .int (j : Int) := by
      have : (span 0 3)[j]? = some x := hx
      unfold DL.span at this
      rw [List.getElem?_map, List.getElem?_range hj3] at this
      simp at this
      exact this.symm
    subst ex
    refine fun C hC => ?_
    refine seq_frz ?_
    refine seq_set fun C1 h1 => ?_
    walk_at "dlx"
    refine stop_intro ⟨ns, (j : Int), rfl, by omega, by omega, fun a b a0 a1 b0 b1 => h1 _ _ _ rfl ?_⟩
    clear h1 C1
    refine ⟨[a, b, 1000 * (j : Int)], (1000 * (j : Int)).toNat, rfl, ⟨a, b, 1000 * (j : Int), rfl, ⟨a0, a1⟩, ⟨b0, b1⟩, by omega, by omega⟩, ?_, ?_⟩
    · intro k hk
      have hm : some (some EV.gen) ≠ (none : Option (Option EV)) := by simp
      match k, hk with
      | 0, hk => cases hk
      | 1, hk => cases hk
      | 2, hk => cases hk
      | k + 3, hk => exact hg _ (List.mem_cons_of_mem _ (List.mem_cons_of_mem _ (List.mem_of_getElem? (show t[k]? = some (some EV.gen) from hk)))) rfl
    · refine for_goD fun C1 h1 => ?_
      refine ⟨⟨by decide, by decide⟩, h1 _ _ fun DD2 hnx2 hrt2 => ?_⟩
      clear h1 C1
      refine forL_inv _ (fun m ρ n' => n' ≤ (1000 * (j : Int)).toNat + m * 10000 ∧ ∃ t : Rho, t.length = 12 ∧ ρ = some (.scr ns) :: some (.fz (.int (j : Int))) :: some .gen :: t) ?_ wgN_mono ⟨by omega, t, ht2, rfl⟩ ?_
      · rintro m x ρ n2 hx2 ⟨hn2, t, ht, rfl⟩
        have hm := (List.getElem?_eq_some_iff.mp hx2).1
        have hm12 : m < 12 := hm
        obtain ⟨s3, s4, s5, s6, s7, s8, s9, s10, s11, s12, s13, s14, rfl⟩ := split12 ht
        have hbig : n2 + 10000 ≤ 2 ^ 40 := by omega
        refine fun C hC => ?_
        -- numbers
        refine seq_set fun C1 h1 => ?_
        walk_at "dlx"
        refine stop_intro ⟨rfl, by omega, fun nums n3 hl3 hd3 h3 h4 => h1 _ _ _ rfl ?_⟩
        clear h1 C1
        -- menu
        refine seq_setP (fun ev n' => n' = n3 ∧ ∃ ds, ev = .ol ds ∧ (∀ e ∈ ds, smallD e) ∧ 0 < ds.length ∧ ds.length ≤ 1000) (fun C1 h1 => ?_) ?_
        · walk_at "dlx"
          refine ⟨by decide, h1 _ _ _ rfl ⟨rfl, _, rfl, fun e he => ?_, by decide, by decide⟩⟩
          refine smallD_of ?_
          revert e
          exact List.all_eq_true.mp (by decide +kernel)
        rintro _ _ ⟨rfl, menu, rfl, hme, hm0, hm1⟩
        -- names
        refine frz_go ?_
        refine rho_to (ρ' := [some (.scr ns), some (.fz (.int (j : Int))), some .gen, some (.fz x), some (.ol nums), some (.fz (.list menu)), s6, s7, s8, s9, s10, s11, s12, s13, s14]) rfl ?_
        refine seq_set fun C1 h1 => ?_
        refine comp_go fun C2 h2 => ?_
        walk_at "dlx"
        refine stop_intro ⟨5, rfl, ⟨by decide, by decide⟩, by omega, fun r n4 r0 r1 h5 h6 => ?_⟩
        have hsl : (span 0 r.toNat).length = r.toNat := by simp [DL.span]
        refine ⟨⟨by omega, by omega⟩, h2 _ _ (by omega) ?_⟩
        clear h2 C2
        refine compL_any smallD 10 (n4 + 50) _ n4 (by omega) (fun y hy n5 hn5 C2 h2 => ?_) ?_
        · walk_at "dlx"
          exact stop_intro ⟨_, menu, rfl, .inl rfl, ⟨hm0, hm1⟩, by omega, fun e he n6 h7 h8 => h2 _ _ (hme e he) h7 h8⟩
        intro names n5 e1 e2 e3 e4
        rw [hsl] at e1
        have hnl : names.length ≤ 4 := by omega
        refine h1 _ _ _ rfl ?_
        clear h1 C1 e1
        -- good
        refine frz_go ?_
        refine rho_to (ρ' := [some (.scr ns), some (.fz (.int (j : Int))), some .gen, some (.fz x), some (.ol nums), some (.fz (.list menu)), some (.fz (.list names)), s7, s8, s9, s10, s11, s12, s13, s14]) rfl ?_
        refine seq_set fun C1 h1 => ?_
        refine comp_go fun C2 h2 => ?_
        refine iany_go fun C3 h3' => ?_
        walk_at "dlx"
        refine h3' _ _ _ _ rfl rfl (h2 _ _ (by omega) ?_)
        clear h2 h3' C2 C3
        refine compL_filterD nameD names (fun y hy C2 C0 cq => ?_) ?_
        · have hsm := e2 y hy
          have hok := (facts_of hsm).ok
          walk_at "dlx"
          rcases hsm with rfl | ⟨z, rfl, _⟩ | ⟨z, rfl, _⟩
          · exact cq
          · exact cq
          · refine ⟨_, rfl, hok, ?_⟩
            walk_at "dlx"
            exact cq
        have hgn : (names.filter nameD).all nameD = true := List.all_eq_true.mpr fun d hd => (List.mem_filter.mp hd).2
        have hgs : ∀ d ∈ names.filter nameD, smallD d := fun d hd => e2 d (List.mem_filter.mp hd).1
        have hgl : (names.filter nameD).length ≤ 4 := Nat.le_trans (List.length_filter_le ..) hnl
        have hgd := setD_names hgn hgs (by omega)
        generalize names.filter nameD = good at hgn hgs hgl hgd ⊢
        refine h1 _ _ _ rfl ?_
        clear h1 C1
        -- lists
        refine frz_go (frz_go ?_)
        refine rho_to (ρ' := [some (.scr ns), some (.fz (.int (j : Int))), some .gen, some (.fz x), some (.ol nums), some (.fz (.list menu)), some (.fz (.list names)), some (.fz (.list good)), s8, s9, s10, s11, s12, s13, s14]) rfl ?_
        refine seq_setP (fun ev m' => m' = n5 ∧ ∃ ds, ev = .ol ds ∧ (∀ e ∈ ds, okJ e) ∧ ds.length = 7) (fun C1 h1 => ?_) ?_
        · refine cons_go fun C2 h2 => ?_
          walk_at "dlx"
          refine h2 _ _ ?_
          clear h2 C2
          refine cons_go fun C2 h2 => ?_
          walk_at "dlx"
          refine h2 _ _ ?_
          clear h2 C2
          refine cons_go fun C2 h2 => ?_
          walk_at "dlx"
          refine setD_sorted rfl hgd fun srt sl sm _ => h2 _ _ ?_
          clear h2 C2
          refine cons_go fun C2 h2 => ?_
          walk_at "dlx"
          refine stop_intro ⟨good, rfl, hgd, by omega, fun u1 ul1 um1 => h2 _ _ ?_⟩
          clear h2 C2
          refine cons_go fun C2 h2 => ?_
          walk_at "dlx"
          refine stop_intro ⟨good, rfl, hgd, by omega, fun u2 ul2 um2 => ?_⟩
          walk_at "dlx"
          refine h2 _ _ ?_
          clear h2 C2
          refine cons_go fun C2 h2 => ?_
          walk_at "dlx"
          refine stop_intro ⟨good, rfl, hgd, by omega, fun u3 ul3 um3 => ?_⟩
          walk_at "dlx"
          refine h2 _ _ ?_
          clear h2 C2
          refine cons_go fun C2 h2 => ?_
          walk_at "dlx"
          refine stop_intro ⟨good, rfl, hgd, by omega, fun u4 ul4 um4 => ?_⟩
          walk_at "dlx"
          refine h2 _ _ ?_
          clear h2 C2
          have hseven : ∀ d ∈ [PyData.list names, .list good, .list srt, .list u1, .tuple u2, .list (cutD u3 none (some 1)), .list u4.reverse], okJ d := by
            intro d hd
            simp only [List.mem_cons, List.not_mem_nil, or_false] at hd
            rcases hd with rfl | rfl | rfl | rfl | rfl | rfl | rfl
            · exact okJ_list e2 (by omega)
            · exact okJ_list hgs (by omega)
            · exact okJ_list (fun d hd => hgs d (sm d hd)) (by omega)
            · exact okJ_list (fun d hd => hgs d (um1 d hd)) (by omega)
            · exact okJ_tuple (fun d hd => hgs d (um2 d hd)) (by omega)
            · exact okJ_list (fun d hd => hgs d (um3 d (cutD_mem hd))) (by have := cutD_len (ds := u3) (lo := none) (hi := some 1); omega)
            · exact okJ_list (fun d hd => hgs d (um4 d (List.mem_reverse.mp hd))) (by rw [List.length_reverse]; omega)
          exact ⟨rfl, (show 7 ≤ sizeLine by decide), h1 _ _ _ rfl ⟨rfl, _, rfl, hseven, rfl⟩⟩
        rintro _ n5b ⟨rfl, lists, rfl, hseven, hl7⟩
        -- for value
        obtain ⟨zs, hzs⟩ := setD_nums hd3
        have hnd : setD nums := .inl ⟨zs, hzs⟩
        have hns : ∀ d ∈ nums, smallD d := fun d hd => small_num (hd3 d hd)
        refine frz_go ?_
        refine rho_to (ρ' := [some (.scr ns), some (.fz (.int (j : Int))), some .gen, some (.fz x), some (.fz (.list nums)), some (.fz (.list menu)), some (.fz (.list names)), some (.fz (.list good)), some (.ol lists), s9, s10, s11, s12, s13, s14]) rfl ?_
        refine for_goD fun C1 h1 => ?_
        refine iany_go fun C2 h2 => ?_
        refine bin_go fun C3 h3' => ?_
        refine cons_go fun C4 h4' => ?_
        walk_at "dlx"
        refine stop_intro ⟨rfl, by omega, fun r1 d1 n6 hr1 hj1 h7 h8 => h4' _ _ ?_⟩
        rw [hr1]
        clear h4' C4
        refine cons_go fun C4 h4' => ?_
        walk_at "dlx"
        refine stop_intro ⟨rfl, by omega, fun z n7 hz1 hz2 h9 h10 => h4' _ _ ?_⟩
        clear h4' C4
        refine cons_go fun C4 h4' => ?_
        walk_at "dlx"
        refine h4' _ _ ?_
        clear h4' C4
        refine cons_go fun C4 h4' => ?_
        walk_at "dlx"
        refine setD_sorted rfl hnd fun srt2 sl2 sm2 _ => h4' _ _ ?_
        clear h4' C4
        refine cons_go fun C4 h4' => ?_
        walk_at "dlx"
        refine stop_intro ⟨nums, rfl, hnd, by omega, fun v1 vl1 vm1 => h4' _ _ ?_⟩
        clear h4' C4
        refine cons_go fun C4 h4' => ?_
        walk_at "dlx"
        refine stop_intro ⟨nums, rfl, hnd, by omega, fun v2 vl2 vm2 => ?_⟩
        walk_at "dlx"
        refine h4' _ _ ?_
        clear h4' C4
        have hsix : ∀ d ∈ [d1, .str z, .list nums, .list srt2, .list v1, .tuple v2], okJ d := by
          intro d hd
          simp only [List.mem_cons, List.not_mem_nil, or_false] at hd
          rcases hd with rfl | rfl | rfl | rfl | rfl | rfl
          · exact hj1
          · exact okJ_small (.inr (.inr ⟨z, rfl, by omega, hz2⟩))
          · exact okJ_list hns (by omega)
          · exact okJ_list (fun d hd => hns d (sm2 d hd)) (by omega)
          · exact okJ_list (fun d hd => hns d (vm1 d hd)) (by omega)
          · exact okJ_tuple (fun d hd => hns d (vm2 d hd)) (by omega)
        refine ⟨rfl, (show 6 ≤ sizeLine by decide), h3' _ _ ?_⟩
        clear h3' C3
        refine ⟨(show 6 + lists.length ≤ sizeLine by omega), h2 _ _ _ ([d1, .str z, .list nums, .list srt2, .list v1, .tuple v2] ++ lists) rfl rfl (h1 _ _ fun DD3 hnx3 hrt3 => ?_)⟩
        clear h1 h2 C1 C2
        have hall : ∀ d ∈ ([d1, .str z, .list nums, .list srt2, .list v1, .tuple v2] ++ lists), okJ d := fun d hd => (List.mem_append.mp hd).elim (hsix d) (hseven d)
        generalize ([d1, .str z, .list nums, .list srt2, .list v1, .tuple v2] ++ lists) = items at hall ⊢
        refine forL_inv _ (fun q ρ n' => n' = n7 ∧ ∃ t : Rho, t.length = 12 ∧ ρ = some (.scr ns) :: some (.fz (.int (j : Int))) :: some .gen :: t) ?_ wgN_mono ⟨rfl, _, ?_, rfl⟩ ?_
        · rintro q' y ρ n9 hy ⟨rfl, t, ht', rfl⟩
          obtain ⟨s3, s4, s5, s6, s7, s8, s9, s10, s11, s12, s13, s14, rfl⟩ := split12 ht'
          refine fun C5 h5' => ?_
          walk_at "dlx"
          refine stop_intro ⟨y, rfl, hall y (List.mem_of_getElem? hy), ?_⟩
          exact h5' _ _ ⟨rfl, _, rfl, rfl⟩
        · rfl
        · rintro ρ' n9 ⟨rfl, t, ht', rfl⟩
          rw [hnx3]
          exact hC _ _ ⟨by omega, t, ht', rfl⟩
      · rintro ρ' n2 ⟨hn2, t, ht, rfl⟩
        rw [hnx2]
        refine hC _ _ ⟨rfl, _, ?_, ?_, rfl⟩
        · simp [ht]
        · intro x hx e
          subst e
          have hx' : some EV.gen ∈ unGen (some (.scr ns) :: some (.fz (.int (j : Int))) :: some .gen :: t) := List.mem_cons_of_mem _ hx
          obtain ⟨k, hk, e⟩ := List.mem_iff_getElem.mp hx'
          exact unGen_no _ k (by rw [List.getElem?_eq_getElem hk, e])
  · rintro ρ' n' ⟨rfl, t, ht, hg, rfl⟩
    rw [hnx]
    obtain ⟨o, p, t, rfl, ht2⟩ := split14 ht
    obtain ⟨s3, s4, s5, s6, s7, s8, s9, s10, s11, s12, s13, s14, rfl⟩ := split12 ht2
    refine seq_setP (fun ev m' => m' = n' ∧ ∃ ds, ev = .ol ds ∧ (∀ e ∈ ds, smallD e) ∧ ds.length = 60) (fun C1 h1 => ?_) ?_
    · refine comp_go fun C2 h2 => ?_
      refine ⟨⟨by decide, by decide⟩, h2 _ _ (by decide +kernel) ?_⟩
      clear h2 C2
      have hm : (List.range 60).all manyOk = true := by decide +kernel
      refine compL_each (fun i : Nat => PyData.int (0 + (i : Int))) manyD (List.range 60) (fun i hi C cq => ?_) ?_
      · have hi' := List.all_eq_true.mp hm i hi
        simp only [manyOk, Bool.and_eq_true, decide_eq_true_eq] at hi'
        walk_at "dlx"
        exact ⟨hi'.1.1, hi'.1.2, cq⟩
      · refine h1 _ _ _ rfl ⟨rfl, _, rfl, fun e he => ?_, by simp⟩
        obtain ⟨i, hi, rfl⟩ := List.mem_map.mp he
        have hi' := List.all_eq_true.mp hm i hi
        simp only [manyOk, Bool.and_eq_true, decide_eq_true_eq] at hi'
        exact smallD_of hi'.2
    rintro _ m1 ⟨rfl, many, rfl, hma, hml⟩
    -- due
    refine frz_go (frz_goU fun s9a => ?_)
    refine seq_setP (fun ev m' => m' = m1 ∧ ∃ ds, ev = .ol ds ∧ (∀ e ∈ ds, e = .bool true) ∧ ds.length ≤ 100) (fun C1 h1 => ?_) ?_
    · refine comp_go fun C2 h2 => ?_
      refine iany_go fun C3 h3 => ?_
      refine cons_go fun C4 h4 => ?_
      walk_at "dlx"
      refine h4 _ _ ?_
      clear h4 C4
      refine cons_go fun C4 h4 => ?_
      walk_at "dlx"
      rw [atI_nat (l := many) (i := 59) (j := 59) rfl (by omega)]
      walk_at "dlx"
      rw [atI_nat (l := many) (i := 58) (j := 58) rfl (by omega)]
      walk_at "dlx"
      have c58 := cutD_len (ds := many) (lo := none) (hi := some 58)
      have c59 := cutD_len (ds := many) (lo := none) (hi := some 59)
      refine ⟨by decide, by omega, h4 _ _ ?_⟩
      clear h4 C4
      refine cons_go fun C4 h4 => ?_
      walk_at "dlx"
      rw [atI_nat (l := many) (i := 58) (j := 58) rfl (by omega)]
      walk_at "dlx"
      refine ⟨by decide, by omega, h4 _ _ ?_⟩
      clear h4 C4
      refine cons_go fun C4 h4 => ?_
      walk_at "dlx"
      refine ⟨by decide, by omega, h4 _ _ ?_⟩
      clear h4 C4
      have h59 := hma _ (List.getElem_mem (l := many) (n := 59) (by omega))
      have h58 := hma _ (List.getElem_mem (l := many) (n := 58) (by omega))
      have hA : smallD (.str (Str.ofString "A")) := smallD_of (by decide +kernel)
      have hfour : ∀ d ∈ [PyData.list many, .list (cutD many none (some 58) ++ [many[59], many[58]]), .list (cutD many none (some 59) ++ [many[58]]), .list (many ++ [.str (Str.ofString "A")])], okJ d := by
        intro d hd
        simp only [List.mem_cons, List.not_mem_nil, or_false] at hd
        rcases hd with rfl | rfl | rfl | rfl
        · exact okJ_list hma (by omega)
        · refine okJ_list (fun d hd => ?_) (by rw [List.length_append]; simp; omega)
          simp only [List.mem_append, List.mem_cons, List.not_mem_nil, or_false] at hd
          rcases hd with hd | rfl | rfl
          · exact hma d (cutD_mem hd)
          · exact h59
          · exact h58
        · refine okJ_list (fun d hd => ?_) (by rw [List.length_append]; simp; omega)
          simp only [List.mem_append, List.mem_cons, List.not_mem_nil, or_false] at hd
          rcases hd with hd | rfl
          · exact hma d (cutD_mem hd)
          · exact h58
        · refine okJ_list (fun d hd => ?_) (by rw [List.length_append]; simp; omega)
          simp only [List.mem_append, List.mem_cons, List.not_mem_nil, or_false] at hd
          rcases hd with hd | rfl
          · exact hma d hd
          · exact hA
      refine ⟨rfl, (show 4 ≤ sizeLine by decide), h3 _ _ _ [PyData.list many, .list (cutD many none (some 58) ++ [many[59], many[58]]), .list (cutD many none (some 59) ++ [many[58]]), .list (many ++ [.str (Str.ofString "A")])] rfl rfl (h2 _ _ (show 4 ≤ sizeLine by decide) ?_)⟩
      refine compL_eachD (fun _ => .bool true) _ (fun x hx C cq => ?_) ?_
      · walk_at "dlx"
        refine stop_intro ⟨x, rfl, hfour x hx, cq⟩
      · refine h1 _ _ _ rfl ⟨rfl, _, rfl, fun e he => ?_, (show 4 ≤ 100 by decide)⟩
        obtain ⟨_, _, rfl⟩ := List.mem_map.mp he
        rfl
    rintro _ m2 ⟨rfl, due, rfl, hdt, hdl⟩
    -- rest
    refine seq_setP (fun ev m' => m' = m2 ∧ ∃ ds, ev = .ol ds ∧ (∀ e ∈ ds, okJ e) ∧ ds.length ≤ 100) (fun C1 h1 => ?_) ?_
    · walk_at "dlx"
      repeat (first | refine And.intro (cp_of (by decide) (by decide +kernel)) ?_ | refine And.intro (by decide) ?_)
      refine h1 _ _ _ rfl ⟨rfl, _, rfl, fun e he => ?_, by decide⟩
      refine okJ_of ?_
      revert e
      exact List.all_eq_true.mp (by decide +kernel)
    rintro _ m3 ⟨rfl, rest, rfl, hrt, hrl⟩
    refine frz_goU fun s9b => ?_
    refine seq_setP (fun ev m' => m' = m3 ∧ ∃ ds, ev = .ol ds ∧ (∀ e ∈ ds, e = .bool true) ∧ ds.length ≤ 1000) (fun C1 h1 => ?_) ?_
    · refine bin_go fun C2 h2 => ?_
      walk_at "dlx"
      refine h2 _ _ ?_
      clear h2 C2
      refine comp_go fun C2 h2 => ?_
      refine iany_go fun C3 h3 => ?_
      refine bin_go fun C4 h4 => ?_
      walk_at "dlx"
      refine h4 _ _ ?_
      clear h4 C4
      walk_at "dlx"
      repeat (refine And.intro (by decide) ?_)
      have hten : ∀ d ∈ [PyData.list [.int 1, .int 1], .list [.int 2, .int 1], .int 1, .int 2, .int 9, .int 10, .int 11, .str (Str.ofString "2"), .tuple [.int 2], .bool false], okJ d := fun d hd => okJ_of (by
        revert d
        exact List.all_eq_true.mp (by decide +kernel))
      refine ⟨show rest.length + 10 ≤ sizeLine by omega, h3 _ _ _ (rest ++ [PyData.list [.int 1, .int 1], .list [.int 2, .int 1], .int 1, .int 2, .int 9, .int 10, .int 11, .str (Str.ofString "2"), .tuple [.int 2], .bool false]) rfl rfl (h2 _ _ (by rw [List.length_append]; show rest.length + 10 ≤ _; omega) ?_)⟩
      have hall : ∀ d ∈ rest ++ [PyData.list [.int 1, .int 1], .list [.int 2, .int 1], .int 1, .int 2, .int 9, .int 10, .int 11, .str (Str.ofString "2"), .tuple [.int 2], .bool false], okJ d := fun d hd => (List.mem_append.mp hd).elim (hrt d) (hten d)
      have hlen : (rest ++ [PyData.list [.int 1, .int 1], .list [.int 2, .int 1], .int 1, .int 2, .int 9, .int 10, .int 11, .str (Str.ofString "2"), .tuple [.int 2], .bool false]).length ≤ 200 := by rw [List.length_append]; show rest.length + 10 ≤ _; omega
      generalize (rest ++ [PyData.list [.int 1, .int 1], .list [.int 2, .int 1], .int 1, .int 2, .int 9, .int 10, .int 11, .str (Str.ofString "2"), .tuple [.int 2], .bool false]) = items at hall hlen ⊢
      refine compL_eachD (fun _ => .bool true) items (fun x hx C cq => ?_) ?_
      · walk_at "dlx"
        refine stop_intro ⟨x, rfl, hall x hx, cq⟩
      · have htr : ∀ e ∈ items.map fun _ => PyData.bool true, e = .bool true := fun e he => by
          obtain ⟨_, _, rfl⟩ := List.mem_map.mp he
          rfl
        refine ⟨show due.length + (items.map fun _ => PyData.bool true).length ≤ sizeLine by rw [List.length_map]; omega, h1 _ _ _ rfl ⟨rfl, _, rfl, fun e he => (List.mem_append.mp he).elim (hdt e) (htr e), ?_⟩⟩
        rw [List.length_append, List.length_map]
        omega
    rintro _ m4 ⟨rfl, due2, rfl, hdt2, hdl2⟩
    walk_at "dlx"
    refine ⟨shaped_bool _, trues_shaped hdt2, ?_⟩
    rw [trues_any hdt2]
    exact q
end
end K02

namespace K02
open PySem PySem.Spec PyProof.Rows L2 DL
theorem all_mk {P : Program} {w : World} {K : PySem.W.Frag} {h : Heap} {mg : Str → Option Value} {fa : Addr} (X : K.In h) (G : h.Ns mainGlobals mg) (hfa : mg "law" = some (.ref fa))
    {f_is_whole : Addr} {od_is_whole an_is_whole : Option Addr} {sl_is_whole : Array (Option Value)} {oc_is_whole kV_is_whole dc_is_whole pm_is_whole cd_is_whole ct_is_whole : Value}
    (a_is_whole : PySem.W.nsIn K mainGlobals "is_whole" = some (some (.ref f_is_whole))) (l_is_whole : K.lookup f_is_whole = some ⟨oc_is_whole, od_is_whole, .func (PySem.W.fnOf "is_whole" "is_whole" (defArgs s_is_whole) (defBody s_is_whole) (defScope s_is_whole) .none kV_is_whole dc_is_whole pm_is_whole an_is_whole cd_is_whole ct_is_whole), sl_is_whole⟩) (c_is_whole : PySem.W.codeIn K cd_is_whole "is_whole" = true) (k_is_whole : PySem.W.keepIn K (.ref f_is_whole) = true)
    {f_is_name : Addr} {od_is_name an_is_name : Option Addr} {sl_is_name : Array (Option Value)} {oc_is_name kV_is_name dc_is_name pm_is_name cd_is_name ct_is_name : Value}
    (a_is_name : PySem.W.nsIn K mainGlobals "is_name" = some (some (.ref f_is_name))) (l_is_name : K.lookup f_is_name = some ⟨oc_is_name, od_is_name, .func (PySem.W.fnOf "is_name" "is_name" (defArgs s_is_name) (defBody s_is_name) (defScope s_is_name) .none kV_is_name dc_is_name pm_is_name an_is_name cd_is_name ct_is_name), sl_is_name⟩) (c_is_name : PySem.W.codeIn K cd_is_name "is_name" = true) (k_is_name : PySem.W.keepIn K (.ref f_is_name) = true)
    {f_is_rising : Addr} {od_is_rising an_is_rising : Option Addr} {sl_is_rising : Array (Option Value)} {oc_is_rising kV_is_rising dc_is_rising pm_is_rising cd_is_rising ct_is_rising : Value}
    (a_is_rising : PySem.W.nsIn K mainGlobals "is_rising" = some (some (.ref f_is_rising))) (l_is_rising : K.lookup f_is_rising = some ⟨oc_is_rising, od_is_rising, .func (PySem.W.fnOf "is_rising" "is_rising" (defArgs s_is_rising) (defBody s_is_rising) (defScope s_is_rising) .none kV_is_rising dc_is_rising pm_is_rising an_is_rising cd_is_rising ct_is_rising), sl_is_rising⟩) (c_is_rising : PySem.W.codeIn K cd_is_rising "is_rising" = true) (k_is_rising : PySem.W.keepIn K (.ref f_is_rising) = true)
    {f_is_places : Addr} {od_is_places an_is_places : Option Addr} {sl_is_places : Array (Option Value)} {oc_is_places kV_is_places dc_is_places pm_is_places cd_is_places ct_is_places : Value}
    (a_is_places : PySem.W.nsIn K mainGlobals "is_places" = some (some (.ref f_is_places))) (l_is_places : K.lookup f_is_places = some ⟨oc_is_places, od_is_places, .func (PySem.W.fnOf "is_places" "is_places" (defArgs s_is_places) (defBody s_is_places) (defScope s_is_places) .none kV_is_places dc_is_places pm_is_places an_is_places cd_is_places ct_is_places), sl_is_places⟩) (c_is_places : PySem.W.codeIn K cd_is_places "is_places" = true) (k_is_places : PySem.W.keepIn K (.ref f_is_places) = true)
    {f_is_base : Addr} {od_is_base an_is_base : Option Addr} {sl_is_base : Array (Option Value)} {oc_is_base kV_is_base dc_is_base pm_is_base cd_is_base ct_is_base : Value}
    (a_is_base : PySem.W.nsIn K mainGlobals "is_base" = some (some (.ref f_is_base))) (l_is_base : K.lookup f_is_base = some ⟨oc_is_base, od_is_base, .func (PySem.W.fnOf "is_base" "is_base" (defArgs s_is_base) (defBody s_is_base) (defScope s_is_base) .none kV_is_base dc_is_base pm_is_base an_is_base cd_is_base ct_is_base), sl_is_base⟩) (c_is_base : PySem.W.codeIn K cd_is_base "is_base" = true) (k_is_base : PySem.W.keepIn K (.ref f_is_base) = true)
    {f__law_hash : Addr} {od__law_hash an__law_hash : Option Addr} {sl__law_hash : Array (Option Value)} {oc__law_hash kV__law_hash dc__law_hash pm__law_hash cd__law_hash ct__law_hash : Value}
    (a__law_hash : PySem.W.nsIn K mainGlobals "_law_hash" = some (some (.ref f__law_hash))) (l__law_hash : K.lookup f__law_hash = some ⟨oc__law_hash, od__law_hash, .func (PySem.W.fnOf "_law_hash" "_law_hash" (defArgs s__law_hash) (defBody s__law_hash) (defScope s__law_hash) .none kV__law_hash dc__law_hash pm__law_hash an__law_hash cd__law_hash ct__law_hash), sl__law_hash⟩) (c__law_hash : PySem.W.codeIn K cd__law_hash "_law_hash" = true) (k__law_hash : PySem.W.keepIn K (.ref f__law_hash) = true)
    {f__law_cell : Addr} {od__law_cell an__law_cell : Option Addr} {sl__law_cell : Array (Option Value)} {oc__law_cell kV__law_cell dc__law_cell pm__law_cell cd__law_cell ct__law_cell : Value}
    (a__law_cell : PySem.W.nsIn K mainGlobals "_law_cell" = some (some (.ref f__law_cell))) (l__law_cell : K.lookup f__law_cell = some ⟨oc__law_cell, od__law_cell, .func (PySem.W.fnOf "_law_cell" "_law_cell" (defArgs s__law_cell) (defBody s__law_cell) (defScope s__law_cell) .none kV__law_cell dc__law_cell pm__law_cell an__law_cell cd__law_cell ct__law_cell), sl__law_cell⟩) (c__law_cell : PySem.W.codeIn K cd__law_cell "_law_cell" = true) (k__law_cell : PySem.W.keepIn K (.ref f__law_cell) = true)
    {f__law_generator : Addr} {od__law_generator an__law_generator : Option Addr} {sl__law_generator : Array (Option Value)} {oc__law_generator kV__law_generator dc__law_generator pm__law_generator cd__law_generator ct__law_generator : Value}
    (a__law_generator : PySem.W.nsIn K mainGlobals "_law_generator" = some (some (.ref f__law_generator))) (l__law_generator : K.lookup f__law_generator = some ⟨oc__law_generator, od__law_generator, .func (PySem.W.fnOf "_law_generator" "_law_generator" (defArgs s__law_generator) (defBody s__law_generator) (defScope s__law_generator) .none kV__law_generator dc__law_generator pm__law_generator an__law_generator cd__law_generator ct__law_generator), sl__law_generator⟩) (c__law_generator : PySem.W.codeIn K cd__law_generator "_law_generator" = true) (k__law_generator : PySem.W.keepIn K (.ref f__law_generator) = true)
    {f__law_random : Addr} {od__law_random an__law_random : Option Addr} {sl__law_random : Array (Option Value)} {oc__law_random kV__law_random dc__law_random pm__law_random cd__law_random ct__law_random : Value}
    (a__law_random : PySem.W.nsIn K mainGlobals "_law_random" = some (some (.ref f__law_random))) (l__law_random : K.lookup f__law_random = some ⟨oc__law_random, od__law_random, .func (PySem.W.fnOf "_law_random" "_law_random" (defArgs s__law_random) (defBody s__law_random) (defScope s__law_random) .none kV__law_random dc__law_random pm__law_random an__law_random cd__law_random ct__law_random), sl__law_random⟩) (c__law_random : PySem.W.codeIn K cd__law_random "_law_random" = true) (k__law_random : PySem.W.keepIn K (.ref f__law_random) = true)
    {f__law_pick : Addr} {od__law_pick an__law_pick : Option Addr} {sl__law_pick : Array (Option Value)} {oc__law_pick kV__law_pick dc__law_pick pm__law_pick cd__law_pick ct__law_pick : Value}
    (a__law_pick : PySem.W.nsIn K mainGlobals "_law_pick" = some (some (.ref f__law_pick))) (l__law_pick : K.lookup f__law_pick = some ⟨oc__law_pick, od__law_pick, .func (PySem.W.fnOf "_law_pick" "_law_pick" (defArgs s__law_pick) (defBody s__law_pick) (defScope s__law_pick) .none kV__law_pick dc__law_pick pm__law_pick an__law_pick cd__law_pick ct__law_pick), sl__law_pick⟩) (c__law_pick : PySem.W.codeIn K cd__law_pick "_law_pick" = true) (k__law_pick : PySem.W.keepIn K (.ref f__law_pick) = true)
    {f__law_copied : Addr} {od__law_copied an__law_copied : Option Addr} {sl__law_copied : Array (Option Value)} {oc__law_copied kV__law_copied dc__law_copied pm__law_copied cd__law_copied ct__law_copied : Value}
    (a__law_copied : PySem.W.nsIn K mainGlobals "_law_copied" = some (some (.ref f__law_copied))) (l__law_copied : K.lookup f__law_copied = some ⟨oc__law_copied, od__law_copied, .func (PySem.W.fnOf "_law_copied" "_law_copied" (defArgs s__law_copied) (defBody s__law_copied) (defScope s__law_copied) .none kV__law_copied dc__law_copied pm__law_copied an__law_copied cd__law_copied ct__law_copied), sl__law_copied⟩) (c__law_copied : PySem.W.codeIn K cd__law_copied "_law_copied" = true) (k__law_copied : PySem.W.keepIn K (.ref f__law_copied) = true)
    {f__law_unlike : Addr} {od__law_unlike an__law_unlike : Option Addr} {sl__law_unlike : Array (Option Value)} {oc__law_unlike kV__law_unlike dc__law_unlike pm__law_unlike cd__law_unlike ct__law_unlike : Value}
    (a__law_unlike : PySem.W.nsIn K mainGlobals "_law_unlike" = some (some (.ref f__law_unlike))) (l__law_unlike : K.lookup f__law_unlike = some ⟨oc__law_unlike, od__law_unlike, .func (PySem.W.fnOf "_law_unlike" "_law_unlike" (defArgs s__law_unlike) (defBody s__law_unlike) (defScope s__law_unlike) .none kV__law_unlike dc__law_unlike pm__law_unlike an__law_unlike cd__law_unlike ct__law_unlike), sl__law_unlike⟩) (c__law_unlike : PySem.W.codeIn K cd__law_unlike "_law_unlike" = true) (k__law_unlike : PySem.W.keepIn K (.ref f__law_unlike) = true)
    {f__law_any : Addr} {od__law_any an__law_any : Option Addr} {sl__law_any : Array (Option Value)} {oc__law_any kV__law_any dc__law_any pm__law_any cd__law_any ct__law_any : Value}
    (a__law_any : PySem.W.nsIn K mainGlobals "_law_any" = some (some (.ref f__law_any))) (l__law_any : K.lookup f__law_any = some ⟨oc__law_any, od__law_any, .func (PySem.W.fnOf "_law_any" "_law_any" (defArgs s__law_any) (defBody s__law_any) (defScope s__law_any) .none kV__law_any dc__law_any pm__law_any an__law_any cd__law_any ct__law_any), sl__law_any⟩) (c__law_any : PySem.W.codeIn K cd__law_any "_law_any" = true) (k__law_any : PySem.W.keepIn K (.ref f__law_any) = true)
    {f__law_exact : Addr} {od__law_exact an__law_exact : Option Addr} {sl__law_exact : Array (Option Value)} {oc__law_exact kV__law_exact dc__law_exact pm__law_exact cd__law_exact ct__law_exact : Value}
    (a__law_exact : PySem.W.nsIn K mainGlobals "_law_exact" = some (some (.ref f__law_exact))) (l__law_exact : K.lookup f__law_exact = some ⟨oc__law_exact, od__law_exact, .func (PySem.W.fnOf "_law_exact" "_law_exact" (defArgs s__law_exact) (defBody s__law_exact) (defScope s__law_exact) .none kV__law_exact dc__law_exact pm__law_exact an__law_exact cd__law_exact ct__law_exact), sl__law_exact⟩) (c__law_exact : PySem.W.codeIn K cd__law_exact "_law_exact" = true) (k__law_exact : PySem.W.keepIn K (.ref f__law_exact) = true)
    {f__law_name : Addr} {od__law_name an__law_name : Option Addr} {sl__law_name : Array (Option Value)} {oc__law_name kV__law_name dc__law_name pm__law_name cd__law_name ct__law_name : Value}
    (a__law_name : PySem.W.nsIn K mainGlobals "_law_name" = some (some (.ref f__law_name))) (l__law_name : K.lookup f__law_name = some ⟨oc__law_name, od__law_name, .func (PySem.W.fnOf "_law_name" "_law_name" (defArgs s__law_name) (defBody s__law_name) (defScope s__law_name) .none kV__law_name dc__law_name pm__law_name an__law_name cd__law_name ct__law_name), sl__law_name⟩) (c__law_name : PySem.W.codeIn K cd__law_name "_law_name" = true) (k__law_name : PySem.W.keepIn K (.ref f__law_name) = true)
    {f__law_rise : Addr} {od__law_rise an__law_rise : Option Addr} {sl__law_rise : Array (Option Value)} {oc__law_rise kV__law_rise dc__law_rise pm__law_rise cd__law_rise ct__law_rise : Value}
    (a__law_rise : PySem.W.nsIn K mainGlobals "_law_rise" = some (some (.ref f__law_rise))) (l__law_rise : K.lookup f__law_rise = some ⟨oc__law_rise, od__law_rise, .func (PySem.W.fnOf "_law_rise" "_law_rise" (defArgs s__law_rise) (defBody s__law_rise) (defScope s__law_rise) .none kV__law_rise dc__law_rise pm__law_rise an__law_rise cd__law_rise ct__law_rise), sl__law_rise⟩) (c__law_rise : PySem.W.codeIn K cd__law_rise "_law_rise" = true) (k__law_rise : PySem.W.keepIn K (.ref f__law_rise) = true)
    {f__law_string : Addr} {od__law_string an__law_string : Option Addr} {sl__law_string : Array (Option Value)} {oc__law_string kV__law_string dc__law_string pm__law_string cd__law_string ct__law_string : Value}
    (a__law_string : PySem.W.nsIn K mainGlobals "_law_string" = some (some (.ref f__law_string))) (l__law_string : K.lookup f__law_string = some ⟨oc__law_string, od__law_string, .func (PySem.W.fnOf "_law_string" "_law_string" (defArgs s__law_string) (defBody s__law_string) (defScope s__law_string) .none kV__law_string dc__law_string pm__law_string an__law_string cd__law_string ct__law_string), sl__law_string⟩) (c__law_string : PySem.W.codeIn K cd__law_string "_law_string" = true) (k__law_string : PySem.W.keepIn K (.ref f__law_string) = true)
    {f__law_numbers : Addr} {od__law_numbers an__law_numbers : Option Addr} {sl__law_numbers : Array (Option Value)} {oc__law_numbers kV__law_numbers dc__law_numbers pm__law_numbers cd__law_numbers ct__law_numbers : Value}
    (a__law_numbers : PySem.W.nsIn K mainGlobals "_law_numbers" = some (some (.ref f__law_numbers))) (l__law_numbers : K.lookup f__law_numbers = some ⟨oc__law_numbers, od__law_numbers, .func (PySem.W.fnOf "_law_numbers" "_law_numbers" (defArgs s__law_numbers) (defBody s__law_numbers) (defScope s__law_numbers) .none kV__law_numbers dc__law_numbers pm__law_numbers an__law_numbers cd__law_numbers ct__law_numbers), sl__law_numbers⟩) (c__law_numbers : PySem.W.codeIn K cd__law_numbers "_law_numbers" = true) (k__law_numbers : PySem.W.keepIn K (.ref f__law_numbers) = true)
    {f__law_judged : Addr} {od__law_judged an__law_judged : Option Addr} {sl__law_judged : Array (Option Value)} {oc__law_judged kV__law_judged dc__law_judged pm__law_judged cd__law_judged ct__law_judged : Value}
    (a__law_judged : PySem.W.nsIn K mainGlobals "_law_judged" = some (some (.ref f__law_judged))) (l__law_judged : K.lookup f__law_judged = some ⟨oc__law_judged, od__law_judged, .func (PySem.W.fnOf "_law_judged" "_law_judged" (defArgs s__law_judged) (defBody s__law_judged) (defScope s__law_judged) .none kV__law_judged dc__law_judged pm__law_judged an__law_judged cd__law_judged ct__law_judged), sl__law_judged⟩) (c__law_judged : PySem.W.codeIn K cd__law_judged "_law_judged" = true) (k__law_judged : PySem.W.keepIn K (.ref f__law_judged) = true)
    {f_law : Addr} {od_law an_law : Option Addr} {sl_law : Array (Option Value)} {oc_law kV_law dc_law pm_law cd_law ct_law : Value}
    (a_law : PySem.W.nsIn K mainGlobals "law" = some (some (.ref f_law))) (l_law : K.lookup f_law = some ⟨oc_law, od_law, .func (PySem.W.fnOf "law" "law" (defArgs s_law) (defBody s_law) (defScope s_law) .none kV_law dc_law pm_law an_law cd_law ct_law), sl_law⟩) (c_law : PySem.W.codeIn K cd_law "law" = true) (k_law : PySem.W.keepIn K (.ref f_law) = true)
    (z_all : PySem.W.nsIn K mainGlobals "all" = some none)
    (z_bool : PySem.W.nsIn K mainGlobals "bool" = some none)
    (z_dict : PySem.W.nsIn K mainGlobals "dict" = some none)
    (z_int : PySem.W.nsIn K mainGlobals "int" = some none)
    (z_isinstance : PySem.W.nsIn K mainGlobals "isinstance" = some none)
    (z_len : PySem.W.nsIn K mainGlobals "len" = some none)
    (z_list : PySem.W.nsIn K mainGlobals "list" = some none)
    (z_max : PySem.W.nsIn K mainGlobals "max" = some none)
    (z_range : PySem.W.nsIn K mainGlobals "range" = some none)
    (z_repr : PySem.W.nsIn K mainGlobals "repr" = some none)
    (z_sorted : PySem.W.nsIn K mainGlobals "sorted" = some none)
    (z_str : PySem.W.nsIn K mainGlobals "str" = some none)
    (z_sum : PySem.W.nsIn K mainGlobals "sum" = some none)
    (z_tuple : PySem.W.nsIn K mainGlobals "tuple" = some none)
    (z_zip : PySem.W.nsIn K mainGlobals "zip" = some none)
    {t_SMALL : Tok} (y_SMALL : PySem.W.nsIn K mainGlobals "SMALL" = some (some (.str (Str.ofString "abcdefghijklmnopqrstuvwxyz") t_SMALL)))
    {t_FIGURES : Tok} (y_FIGURES : PySem.W.nsIn K mainGlobals "FIGURES" = some (some (.str (Str.ofString "0123456789") t_FIGURES)))
    {t_MOST_NAME : Tok} (y_MOST_NAME : PySem.W.nsIn K mainGlobals "MOST_NAME" = some (some (.int 8 t_MOST_NAME))) :
    ∃ fd : FuncData, (∀ (s : Shared) (v : Value), BindsTo s fd ⟨[v], []⟩ [("script", v)]) ∧ ∀ base : Heap, K.In base → base.Ns mainGlobals mg → FnG P w K mg base CX0 5 fa fd ["script"] (liftSp0 K Gk cLaw) := by
  have e := hfa.symm.trans (PySem.W.mg_of X G a_law)
  cases e
  have F_is_whole := fun_mk (st := s_is_whole) l_is_whole c_is_whole k_is_whole
  have b_is_whole := F_is_whole.binds (ps := ["value"]) fun _ _ _ _ _ _ us hl => match us, hl with | [_], _ => rfl
  have F_is_name := fun_mk (st := s_is_name) l_is_name c_is_name k_is_name
  have b_is_name := F_is_name.binds (ps := ["value"]) fun _ _ _ _ _ _ us hl => match us, hl with | [_], _ => rfl
  have F_is_rising := fun_mk (st := s_is_rising) l_is_rising c_is_rising k_is_rising
  have b_is_rising := F_is_rising.binds (ps := ["items"]) fun _ _ _ _ _ _ us hl => match us, hl with | [_], _ => rfl
  have F_is_places := fun_mk (st := s_is_places) l_is_places c_is_places k_is_places
  have b_is_places := F_is_places.binds (ps := ["value"]) fun _ _ _ _ _ _ us hl => match us, hl with | [_], _ => rfl
  have F_is_base := fun_mk (st := s_is_base) l_is_base c_is_base k_is_base
  have b_is_base := F_is_base.binds (ps := ["value"]) fun _ _ _ _ _ _ us hl => match us, hl with | [_], _ => rfl
  have F__law_hash := fun_mk (st := s__law_hash) l__law_hash c__law_hash k__law_hash
  have b__law_hash := F__law_hash.binds (ps := ["seed", "index"]) fun _ _ _ _ _ _ us hl => match us, hl with | [_, _], _ => rfl
  have F__law_cell := fun_mk (st := s__law_cell) l__law_cell c__law_cell k__law_cell
  have b__law_cell := F__law_cell.binds (ps := ["script", "index"]) fun _ _ _ _ _ _ us hl => match us, hl with | [_, _], _ => rfl
  have F__law_generator := fun_mk (st := s__law_generator) l__law_generator c__law_generator k__law_generator
  have b__law_generator := F__law_generator.binds (ps := ["script", "index"]) fun _ _ _ _ _ _ us hl => match us, hl with | [_, _], _ => rfl
  have F__law_random := fun_mk (st := s__law_random) l__law_random c__law_random k__law_random
  have b__law_random := F__law_random.binds (ps := ["generator", "bound"]) fun _ _ _ _ _ _ us hl => match us, hl with | [_, _], _ => rfl
  have F__law_pick := fun_mk (st := s__law_pick) l__law_pick c__law_pick k__law_pick
  have b__law_pick := F__law_pick.binds (ps := ["generator", "things"]) fun _ _ _ _ _ _ us hl => match us, hl with | [_, _], _ => rfl
  have F__law_copied := fun_mk (st := s__law_copied) l__law_copied c__law_copied k__law_copied
  have b__law_copied := F__law_copied.binds (ps := ["value"]) fun _ _ _ _ _ _ us hl => match us, hl with | [_], _ => rfl
  have F__law_unlike := fun_mk (st := s__law_unlike) l__law_unlike c__law_unlike k__law_unlike
  have b__law_unlike := F__law_unlike.binds (ps := ["items"]) fun _ _ _ _ _ _ us hl => match us, hl with | [_], _ => rfl
  have F__law_any := fun_mk (st := s__law_any) l__law_any c__law_any k__law_any
  have b__law_any := F__law_any.binds (ps := ["generator"]) fun _ _ _ _ _ _ us hl => match us, hl with | [_], _ => rfl
  have F__law_exact := fun_mk (st := s__law_exact) l__law_exact c__law_exact k__law_exact
  have b__law_exact := F__law_exact.binds (ps := ["told", "due"]) fun _ _ _ _ _ _ us hl => match us, hl with | [_, _], _ => rfl
  have F__law_name := fun_mk (st := s__law_name) l__law_name c__law_name k__law_name
  have b__law_name := F__law_name.binds (ps := ["value"]) fun _ _ _ _ _ _ us hl => match us, hl with | [_], _ => rfl
  have F__law_rise := fun_mk (st := s__law_rise) l__law_rise c__law_rise k__law_rise
  have b__law_rise := F__law_rise.binds (ps := ["items"]) fun _ _ _ _ _ _ us hl => match us, hl with | [_], _ => rfl
  have F__law_string := fun_mk (st := s__law_string) l__law_string c__law_string k__law_string
  have b__law_string := F__law_string.binds (ps := ["generator"]) fun _ _ _ _ _ _ us hl => match us, hl with | [_], _ => rfl
  have F__law_numbers := fun_mk (st := s__law_numbers) l__law_numbers c__law_numbers k__law_numbers
  have b__law_numbers := F__law_numbers.binds (ps := ["generator"]) fun _ _ _ _ _ _ us hl => match us, hl with | [_], _ => rfl
  have F__law_judged := fun_mk (st := s__law_judged) l__law_judged c__law_judged k__law_judged
  have b__law_judged := F__law_judged.binds (ps := ["value"]) fun _ _ _ _ _ _ us hl => match us, hl with | [_], _ => rfl
  have F_law := fun_mk (st := s_law) l_law c_law k_law
  have b_law := F_law.binds (ps := ["script"]) fun _ _ _ _ _ _ us hl => match us, hl with | [_], _ => rfl
  exact ⟨PySem.W.fnOf "law" "law" (defArgs s_law) (defBody s_law) (defScope s_law) .none kV_law dc_law pm_law an_law cd_law ct_law, fun s v => .of_eq rfl, fun base _ _ => ok_law { a_is_whole := f_is_whole, fd_is_whole := _, F_is_whole := F_is_whole, g_is_whole := PySem.W.mg_of X G a_is_whole, b_is_whole := b_is_whole, a_is_name := f_is_name, fd_is_name := _, F_is_name := F_is_name, g_is_name := PySem.W.mg_of X G a_is_name, b_is_name := b_is_name, kb_is_name := ⟨fun s ws h => match ws, h with | [_], _ => .of_eq rfl, rfl, by decide⟩, a_is_rising := f_is_rising, fd_is_rising := _, F_is_rising := F_is_rising, g_is_rising := PySem.W.mg_of X G a_is_rising, b_is_rising := b_is_rising, a_is_places := f_is_places, fd_is_places := _, F_is_places := F_is_places, g_is_places := PySem.W.mg_of X G a_is_places, b_is_places := b_is_places, kb_is_places := ⟨fun s ws h => match ws, h with | [_], _ => .of_eq rfl, rfl, by decide⟩, a_is_base := f_is_base, fd_is_base := _, F_is_base := F_is_base, g_is_base := PySem.W.mg_of X G a_is_base, b_is_base := b_is_base, kb_is_base := ⟨fun s ws h => match ws, h with | [_], _ => .of_eq rfl, rfl, by decide⟩, a__law_hash := f__law_hash, fd__law_hash := _, F__law_hash := F__law_hash, g__law_hash := PySem.W.mg_of X G a__law_hash, b__law_hash := b__law_hash, a__law_cell := f__law_cell, fd__law_cell := _, F__law_cell := F__law_cell, g__law_cell := PySem.W.mg_of X G a__law_cell, b__law_cell := b__law_cell, a__law_generator := f__law_generator, fd__law_generator := _, F__law_generator := F__law_generator, g__law_generator := PySem.W.mg_of X G a__law_generator, b__law_generator := b__law_generator, a__law_random := f__law_random, fd__law_random := _, F__law_random := F__law_random, g__law_random := PySem.W.mg_of X G a__law_random, b__law_random := b__law_random, a__law_pick := f__law_pick, fd__law_pick := _, F__law_pick := F__law_pick, g__law_pick := PySem.W.mg_of X G a__law_pick, b__law_pick := b__law_pick, a__law_copied := f__law_copied, fd__law_copied := _, F__law_copied := F__law_copied, g__law_copied := PySem.W.mg_of X G a__law_copied, b__law_copied := b__law_copied, a__law_unlike := f__law_unlike, fd__law_unlike := _, F__law_unlike := F__law_unlike, g__law_unlike := PySem.W.mg_of X G a__law_unlike, b__law_unlike := b__law_unlike, a__law_any := f__law_any, fd__law_any := _, F__law_any := F__law_any, g__law_any := PySem.W.mg_of X G a__law_any, b__law_any := b__law_any, a__law_exact := f__law_exact, fd__law_exact := _, F__law_exact := F__law_exact, g__law_exact := PySem.W.mg_of X G a__law_exact, b__law_exact := b__law_exact, a__law_name := f__law_name, fd__law_name := _, F__law_name := F__law_name, g__law_name := PySem.W.mg_of X G a__law_name, b__law_name := b__law_name, a__law_rise := f__law_rise, fd__law_rise := _, F__law_rise := F__law_rise, g__law_rise := PySem.W.mg_of X G a__law_rise, b__law_rise := b__law_rise, a__law_string := f__law_string, fd__law_string := _, F__law_string := F__law_string, g__law_string := PySem.W.mg_of X G a__law_string, b__law_string := b__law_string, a__law_numbers := f__law_numbers, fd__law_numbers := _, F__law_numbers := F__law_numbers, g__law_numbers := PySem.W.mg_of X G a__law_numbers, b__law_numbers := b__law_numbers, a__law_judged := f__law_judged, fd__law_judged := _, F__law_judged := F__law_judged, g__law_judged := PySem.W.mg_of X G a__law_judged, b__law_judged := b__law_judged, a_law := fa, fd_law := _, F_law := F_law, g_law := PySem.W.mg_of X G a_law, b_law := b_law, z_all := PySem.W.mg_none_of X G z_all, z_bool := PySem.W.mg_none_of X G z_bool, z_dict := PySem.W.mg_none_of X G z_dict, z_int := PySem.W.mg_none_of X G z_int, z_isinstance := PySem.W.mg_none_of X G z_isinstance, z_len := PySem.W.mg_none_of X G z_len, z_list := PySem.W.mg_none_of X G z_list, z_max := PySem.W.mg_none_of X G z_max, z_range := PySem.W.mg_none_of X G z_range, z_repr := PySem.W.mg_none_of X G z_repr, z_sorted := PySem.W.mg_none_of X G z_sorted, z_str := PySem.W.mg_none_of X G z_str, z_sum := PySem.W.mg_none_of X G z_sum, z_tuple := PySem.W.mg_none_of X G z_tuple, z_zip := PySem.W.mg_none_of X G z_zip, t_SMALL := t_SMALL, c_SMALL := PySem.W.mg_of X G y_SMALL, t_FIGURES := t_FIGURES, c_FIGURES := PySem.W.mg_of X G y_FIGURES, t_MOST_NAME := t_MOST_NAME, c_MOST_NAME := PySem.W.mg_of X G y_MOST_NAME }⟩
end K02
open PySem PySem.W PyProof.Rows
set_option maxHeartbeats 0 in
theorem PySem.Challenge.cw_saidbydigits_k02_names_places_and_bases_holds : PySem.Challenge.rw_saidbydigits_k02_names_places_and_bases.Holds := by
  w_on; o_law; k_head; (case hw => w_witness2)
  k_fill
  refine DL.walk_ofG (l := PySem.Challenge.rw_saidbydigits_k02_names_places_and_bases) (n := 63) (k := 5) (x := "script") (sp := fun w => DL.liftSp0 _ DL.Gk K02.cLaw) rfl (by decide) rfl ⟨rfl, by decide, by decide⟩ (fun w h Y => PySem.W.kIn_of Y) ?F (fun _ _ a ns hl hS => DL.liftSp0_law hS fun n Q e q => ⟨ns, rfl, by omega, q⟩)
  case F =>
    intro w mg fa h KX G hmg
    refine' K02.all_mk KX G hmg ?a_is_whole ?l_is_whole ?c_is_whole ?k_is_whole ?a_is_name ?l_is_name ?c_is_name ?k_is_name ?a_is_rising ?l_is_rising ?c_is_rising ?k_is_rising ?a_is_places ?l_is_places ?c_is_places ?k_is_places ?a_is_base ?l_is_base ?c_is_base ?k_is_base ?a__law_hash ?l__law_hash ?c__law_hash ?k__law_hash ?a__law_cell ?l__law_cell ?c__law_cell ?k__law_cell ?a__law_generator ?l__law_generator ?c__law_generator ?k__law_generator ?a__law_random ?l__law_random ?c__law_random ?k__law_random ?a__law_pick ?l__law_pick ?c__law_pick ?k__law_pick ?a__law_copied ?l__law_copied ?c__law_copied ?k__law_copied ?a__law_unlike ?l__law_unlike ?c__law_unlike ?k__law_unlike ?a__law_any ?l__law_any ?c__law_any ?k__law_any ?a__law_exact ?l__law_exact ?c__law_exact ?k__law_exact ?a__law_name ?l__law_name ?c__law_name ?k__law_name ?a__law_rise ?l__law_rise ?c__law_rise ?k__law_rise ?a__law_string ?l__law_string ?c__law_string ?k__law_string ?a__law_numbers ?l__law_numbers ?c__law_numbers ?k__law_numbers ?a__law_judged ?l__law_judged ?c__law_judged ?k__law_judged ?a_law ?l_law ?c_law ?k_law ?z_all ?z_bool ?z_dict ?z_int ?z_isinstance ?z_len ?z_list ?z_max ?z_range ?z_repr ?z_sorted ?z_str ?z_sum ?z_tuple ?z_zip ?y_SMALL ?y_FIGURES ?y_MOST_NAME
    (case a_is_whole => k_is)
    (case l_is_whole => k_is)
    (case c_is_whole => k_is)
    (case k_is_whole => k_is)
    (case a_is_name => k_is)
    (case l_is_name => k_is)
    (case c_is_name => k_is)
    (case k_is_name => k_is)
    (case a_is_rising => k_is)
    (case l_is_rising => k_is)
    (case c_is_rising => k_is)
    (case k_is_rising => k_is)
    (case a_is_places => k_is)
    (case l_is_places => k_is)
    (case c_is_places => k_is)
    (case k_is_places => k_is)
    (case a_is_base => k_is)
    (case l_is_base => k_is)
    (case c_is_base => k_is)
    (case k_is_base => k_is)
    (case a__law_hash => k_is)
    (case l__law_hash => k_is)
    (case c__law_hash => k_is)
    (case k__law_hash => k_is)
    (case a__law_cell => k_is)
    (case l__law_cell => k_is)
    (case c__law_cell => k_is)
    (case k__law_cell => k_is)
    (case a__law_generator => k_is)
    (case l__law_generator => k_is)
    (case c__law_generator => k_is)
    (case k__law_generator => k_is)
    (case a__law_random => k_is)
    (case l__law_random => k_is)
    (case c__law_random => k_is)
    (case k__law_random => k_is)
    (case a__law_pick => k_is)
    (case l__law_pick => k_is)
    (case c__law_pick => k_is)
    (case k__law_pick => k_is)
    (case a__law_copied => k_is)
    (case l__law_copied => k_is)
    (case c__law_copied => k_is)
    (case k__law_copied => k_is)
    (case a__law_unlike => k_is)
    (case l__law_unlike => k_is)
    (case c__law_unlike => k_is)
    (case k__law_unlike => k_is)
    (case a__law_any => k_is)
    (case l__law_any => k_is)
    (case c__law_any => k_is)
    (case k__law_any => k_is)
    (case a__law_exact => k_is)
    (case l__law_exact => k_is)
    (case c__law_exact => k_is)
    (case k__law_exact => k_is)
    (case a__law_name => k_is)
    (case l__law_name => k_is)
    (case c__law_name => k_is)
    (case k__law_name => k_is)
    (case a__law_rise => k_is)
    (case l__law_rise => k_is)
    (case c__law_rise => k_is)
    (case k__law_rise => k_is)
    (case a__law_string => k_is)
    (case l__law_string => k_is)
    (case c__law_string => k_is)
    (case k__law_string => k_is)
    (case a__law_numbers => k_is)
    (case l__law_numbers => k_is)
    (case c__law_numbers => k_is)
    (case k__law_numbers => k_is)
    (case a__law_judged => k_is)
    (case l__law_judged => k_is)
    (case c__law_judged => k_is)
    (case k__law_judged => k_is)
    (case a_law => k_is)
    (case l_law => k_is)
    (case c_law => k_is)
    (case k_law => k_is)
    (case z_all => k_is)
    (case z_bool => k_is)
    (case z_dict => k_is)
    (case z_int => k_is)
    (case z_isinstance => k_is)
    (case z_len => k_is)
    (case z_list => k_is)
    (case z_max => k_is)
    (case z_range => k_is)
    (case z_repr => k_is)
    (case z_sorted => k_is)
    (case z_str => k_is)
    (case z_sum => k_is)
    (case z_tuple => k_is)
    (case z_zip => k_is)
    (case y_SMALL => k_is)
    (case y_FIGURES => k_is)
    (case y_MOST_NAME => k_is)
