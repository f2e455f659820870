import PyProof.Rows.All
import Wide.All
import OpenK.AllK
import Wide.FinOn
import HandS.ForMost
import HandS.Wide
import HandS.Gcd
import HandS.TupAny
import HandS.Zip
import HandS.SortInts
import HandS.SortRule
import HandS.Style
import PyProof.ReprRoads
import HandS.Star
import HandS.TryOnly
import HandS.TupMul
import KE.DataMinMax
import KE.GoesNew
import HandS.Call
import HandS.IsInst
import HandS.Text
import HandS.Deep
import PyProof.StrBlock2
import PyProof.AutoSeq1
import HandS.Conv
import PyProof.NeData
import PyProof.Rows.ReprOcc
import HandS.TupSets
import PySem.Challenge.RW_mediantrows_k30_place_papers_judged
set_option Elab.async false
set_option linter.all false
set_option maxRecDepth 100000
set_option maxHeartbeats 1000000
/-! M1: worlds, data that stands in a heap, environments, readings without a heap -/
namespace MM
open PySem PySem.Spec L2

/-- the frozen part of a heap, and the sources (a dict's address, its cells' address) -/
structure Wd where
  F : Hp
  S : Addr → Option Addr
/-- the datum that stands for a source -/
abbrev srcD : PyData := .dict [(.none, .none)]
/-- the datum that stands for the script -/
abbrev scrD (ns : List Int) : PyData := .dict [(.none, .list (ns.map PyData.int))]
/-- a is a source's own address -/
def Wd.In (W : Wd) (a : Addr) : Prop := ∃ b c, W.S b = some c ∧ (a = b ∨ a = c)
def SrcAt (H : Hp) (a c : Addr) : Prop := ∃ (l m t : Int) (ns : List Int),
  H a = some (.dK [(.inr "cells", .ref c), (.inr "left", .int l), (.inr "mixed", .int m), (.inr "turn", .int t)]) ∧ 0 ≤ l ∧ 0 ≤ m ∧ 0 ≤ t ∧ H c = some (.lst (ns.map V.int)) ∧ ∀ n ∈ ns, 0 ≤ n
mutual
inductive Dm (K : PySem.W.Frag) (W : Wd) : V → PyData → Prop
  | non : Dm K W .non .none
  | bl (b : Bool) : Dm K W (.bl b) (.bool b)
  | int (i : Int) : Dm K W (.int i) (.int i)
  | str (x : Str) : Dm K W (.str x) (.str x)
  | lst {a : Addr} {xs : List V} {ds : List PyData} : W.F a = some (.lst xs) → DmAll K W xs ds → Dm K W (.ref a) (.list ds)
  | tup {a : Addr} {xs : List V} {ds : List PyData} : SqT K W.F a xs → DmAll K W xs ds → Dm K W (.ref a) (.tuple ds)
  | src {a c : Addr} : W.S a = some c → Dm K W (.ref a) srcD
  | scr {a : Addr} {ns : List Int} : SqL K W.F a (ns.map V.int) → Dm K W (.ref a) (scrD ns)
  | emp {a : Addr} : W.F a = some (.dK []) → Dm K W (.ref a) (.dict [])
inductive DmAll (K : PySem.W.Frag) (W : Wd) : List V → List PyData → Prop
  | nil : DmAll K W [] []
  | cons {v : V} {vs : List V} {d : PyData} {ds : List PyData} : Dm K W v d → DmAll K W vs ds → DmAll K W (v :: vs) (d :: ds)
end
structure WOk (W : Wd) (H : Hp) : Prop where
  fh : ∀ a o, W.F a = some o → H a = some o
  src : ∀ a c, W.S a = some c → SrcAt H a c ∧ W.F a = none ∧ W.F c = none
  inj : ∀ a b c, W.S a = some c → W.S b = some c → a = b
structure Gr (W W' : Wd) (H H' : Hp) : Prop where
  f : ∀ a o, W.F a = some o → W'.F a = some o
  s : ∀ a c, W.S a = some c → W'.S a = some c
  h : ∀ a o, H a = some o → ¬ W.In a → H' a = some o
  hs : ∀ a o, H a = some o → ∃ o', H' a = some o'
  nf : ∀ a o, H a = some o → W.F a = none → W'.F a = none
  ns : ∀ a o, H a = some o → ¬ W.In a → ¬ W'.In a
theorem Gr.refl (W : Wd) (H : Hp) : Gr W W H H := ⟨fun _ _ e => e, fun _ _ e => e, fun _ _ e _ => e, fun _ o e => ⟨o, e⟩, fun _ _ _ e => e, fun _ _ _ e => e⟩
theorem Gr.trans {W W1 W2 : Wd} {H H1 H2 : Hp} (a : Gr W W1 H H1) (b : Gr W1 W2 H1 H2) : Gr W W2 H H2 where
  f := fun x o e => b.f x o (a.f x o e)
  s := fun x o e => b.s x o (a.s x o e)
  h := fun x o e n => b.h x o (a.h x o e n) (a.ns x o e n)
  hs := fun x o e => let ⟨o', e'⟩ := a.hs x o e; b.hs x o' e'
  nf := fun x o e n => let ⟨o', e'⟩ := a.hs x o e; b.nf x o' e' (a.nf x o e n)
  ns := fun x o e n => b.ns x o (a.h x o e n) (a.ns x o e n)
theorem SqL.gr {K : PySem.W.Frag} {F F' : Hp} (e : ∀ a o, F a = some o → F' a = some o) {a : Addr} {xs : List V} (h : SqL K F a xs) : SqL K F' a xs := by
  rcases h with (h | ⟨o, h⟩) | h
  · exact .inl (.inl (e _ _ h))
  · exact .inl (.inr ⟨o, e _ _ h⟩)
  · exact .inr h
theorem Rd.gr {F F' : Hp} (e : ∀ a o, F a = some o → F' a = some o) {a : Addr} {u : HO} (h : Rd F a u) : Rd F' a u := h.elim (fun x => .inl (e _ _ x)) fun ⟨o, x⟩ => .inr ⟨o, e _ _ x⟩
theorem SqT.gr {K : PySem.W.Frag} {F F' : Hp} (e : ∀ a o, F a = some o → F' a = some o) {a : Addr} {xs : List V} (h : SqT K F a xs) : SqT K F' a xs := by
  rcases h with (h | ⟨o, h⟩) | h
  · exact .inl (.inl (e _ _ h))
  · exact .inl (.inr ⟨o, e _ _ h⟩)
  · exact .inr h
section
variable {K : PySem.W.Frag} {W W' : Wd} {H H' : Hp}
mutual
theorem Dm.gr (f : ∀ a o, W.F a = some o → W'.F a = some o) (s : ∀ a c, W.S a = some c → W'.S a = some c) : ∀ {d : PyData} {v : V}, Dm K W v d → Dm K W' v d
  | .none, _, h => by cases h; exact .non
  | .bool _, _, h => by cases h; exact .bl _
  | .int _, _, h => by cases h; exact .int _
  | .str _, _, h => by cases h; exact .str _
  | .list ds, _, h => by
    cases h with
    | lst h1 h2 => exact .lst (f _ _ h1) (DmAll.gr f s h2)
  | .tuple ds, _, h => by
    cases h with
    | tup h1 h2 => exact .tup (SqT.gr f h1) (DmAll.gr f s h2)
  | .dict ds, _, h => by
    cases h with
    | src e => exact .src (s _ _ e)
    | scr e => exact .scr (SqL.gr f e)
    | emp e => exact .emp (f _ _ e)
theorem DmAll.gr (f : ∀ a o, W.F a = some o → W'.F a = some o) (s : ∀ a c, W.S a = some c → W'.S a = some c) : ∀ {ds : List PyData} {vs : List V}, DmAll K W vs ds → DmAll K W' vs ds
  | [], _, h => by cases h; exact .nil
  | d :: ds, _, h => by
    cases h with
    | cons h1 h2 => exact .cons (Dm.gr f s h1) (DmAll.gr f s h2)
end
theorem Gr.dm (g : Gr W W' H H') {d : PyData} {v : V} (h : Dm K W v d) : Dm K W' v d := h.gr g.f g.s
theorem Gr.dms (g : Gr W W' H H') {ds : List PyData} {vs : List V} (h : DmAll K W vs ds) : DmAll K W' vs ds := h.gr g.f g.s
theorem DmAll.length : ∀ {ds : List PyData} {vs : List V}, DmAll K W vs ds → vs.length = ds.length
  | [], _, h => by cases h; rfl
  | d :: ds, _, h => by
    cases h with
    | cons h1 h2 => rw [List.length_cons, List.length_cons, DmAll.length h2]
theorem DmAll.get : ∀ {ds : List PyData} {vs : List V} {i : Nat} {d : PyData}, DmAll K W vs ds → ds[i]? = some d → ∃ v, vs[i]? = some v ∧ Dm K W v d
  | [], _, _, _, h, e => by simp at e
  | d :: ds, _, i, x, h, e => by
    cases h with
    | cons h1 h2 =>
      cases i with
      | zero =>
        have e' : d = x := by simpa using e
        subst e'
        exact ⟨_, rfl, h1⟩
      | succ i =>
        obtain ⟨v, e1, e2⟩ := DmAll.get (i := i) h2 (by simpa using e)
        exact ⟨v, by simpa using e1, e2⟩
theorem DmAll.get' {ds : List PyData} {vs : List V} {i : Nat} {v : V} (h : DmAll K W vs ds) (e : vs[i]? = some v) : ∃ d, ds[i]? = some d ∧ Dm K W v d := by
  have hl := h.length
  obtain ⟨hi, _⟩ := List.getElem?_eq_some_iff.mp e
  obtain ⟨v', e1, e2⟩ := h.get (i := i) (d := ds[i]'(by omega)) (List.getElem?_eq_getElem _)
  rw [e] at e1; cases e1
  exact ⟨_, List.getElem?_eq_getElem _, e2⟩
theorem DmAll.append : ∀ {ds es : List PyData} {vs us : List V}, DmAll K W vs ds → DmAll K W us es → DmAll K W (vs ++ us) (ds ++ es)
  | [], _, _, _, h, k => by cases h; exact k
  | d :: ds, _, _, _, h, k => by
    cases h with
    | cons h1 h2 => exact .cons h1 (DmAll.append h2 k)
theorem DmAll.take : ∀ {ds : List PyData} {vs : List V} (n : Nat), DmAll K W vs ds → DmAll K W (vs.take n) (ds.take n)
  | [], _, n, h => by cases h; simp only [List.take_nil]; exact .nil
  | d :: ds, _, 0, h => by simp only [List.take_zero]; exact .nil
  | d :: ds, _, n + 1, h => by
    cases h with
    | cons h1 h2 => exact .cons h1 (DmAll.take n h2)
theorem DmAll.drop : ∀ {ds : List PyData} {vs : List V} (n : Nat), DmAll K W vs ds → DmAll K W (vs.drop n) (ds.drop n)
  | [], _, n, h => by cases h; simp only [List.drop_nil]; exact .nil
  | d :: ds, _, 0, h => h
  | d :: ds, _, n + 1, h => by
    cases h with
    | cons h1 h2 => exact DmAll.drop n h2
theorem DmAll.reverse {ds : List PyData} {vs : List V} (h : DmAll K W vs ds) : DmAll K W vs.reverse ds.reverse := by
  induction ds generalizing vs with
  | nil => cases h; exact .nil
  | cons d ds ih =>
    cases h with
    | cons h1 h2 =>
      rw [List.reverse_cons, List.reverse_cons]
      exact (ih h2).append (.cons h1 .nil)
theorem DmAll.ints : ∀ {ns : List Int} {vs : List V}, DmAll K W vs (ns.map PyData.int) → vs = ns.map V.int
  | [], _, h => by cases h; rfl
  | n :: ns, _, h => by
    cases h with
    | cons h1 h2 =>
      cases h1
      rw [DmAll.ints h2]; rfl
theorem DmAll.bls : ∀ {ns : List Bool} {vs : List V}, DmAll K W vs (ns.map PyData.bool) → vs = ns.map V.bl
  | [], _, h => by cases h; rfl
  | n :: ns, _, h => by
    cases h with
    | cons h1 h2 =>
      cases h1
      rw [DmAll.bls h2]; rfl
theorem DmAll.of_ints : ∀ {ns : List Int}, DmAll K W (ns.map V.int) (ns.map PyData.int)
  | [] => .nil
  | _ :: _ => .cons (.int _) DmAll.of_ints
/-- what is laid out, to the library's relation -/
def plainD : PyData → Bool := PyData.canLay0
mutual
theorem Dm.dp (fh : ∀ a o, W.F a = some o → H a = some o) : ∀ {d : PyData} {v : V}, PyData.canLay0 d = true → Dm K W v d → Dp K H v d
  | .none, _, _, h => by cases h; exact .non
  | .bool _, _, _, h => by cases h; exact .bl _
  | .int _, _, _, h => by cases h; exact .int _
  | .str _, _, _, h => by cases h; exact .str _
  | .list ds, _, c, h => by
    cases h with
    | lst h1 h2 => exact .lst (SqL.of (fh _ _ h1)) (DmAll.dp fh (by simpa [PyData.canLay0] using c) h2)
  | .tuple ds, _, c, h => by
    cases h with
    | tup h1 h2 => exact .tup (SqT.gr fh h1) (DmAll.dp fh (by simpa [PyData.canLay0] using c) h2)
  | .dict ds, _, c, h => by simp [PyData.canLay0] at c
theorem DmAll.dp (fh : ∀ a o, W.F a = some o → H a = some o) : ∀ {ds : List PyData} {vs : List V}, PyData.canLayAll0 ds = true → DmAll K W vs ds → DpAll K H vs ds
  | [], _, _, h => by cases h; exact .nil
  | d :: ds, _, c, h => by
    have c' : d.canLay0 = true ∧ PyData.canLayAll0 ds = true := by simpa [PyData.canLayAll0] using c
    cases h with
    | cons h1 h2 => exact .cons (Dm.dp fh c'.1 h1) (DmAll.dp fh c'.2 h2)
end
/-- a new frozen object -/
theorem lay {p : Addr} {o : HO} (ok : WOk W H) (hp : H p = none) : WOk ⟨upd W.F p o, W.S⟩ (upd H p o) ∧ Gr W ⟨upd W.F p o, W.S⟩ H (upd H p o) := by
  have hF : W.F p = none := by
    cases e : W.F p with
    | none => rfl
    | some u => rw [ok.fh _ _ e] at hp; cases hp
  have ne : ∀ {a : Addr} {u : HO}, H a = some u → a ≠ p := fun e z => by rw [z, hp] at e; cases e
  have up : ∀ {a : Addr} {u : HO}, H a = some u → upd H p o a = some u := fun e => by rw [upd_ne (ne e)]; exact e
  refine ⟨⟨fun a u e => ?_, fun a c e => ?_, ok.inj⟩, ⟨fun a u e => ?_, fun a c e => e, fun a u e _ => up e, fun a u e => ⟨u, up e⟩, fun a u e n => ?_, fun a u e n => n⟩⟩
  · have e : upd W.F p o a = some u := e
    by_cases h : a = p
    · subst h; rw [upd_same] at e ⊢; exact e
    · rw [upd_ne h] at e ⊢; exact ok.fh _ _ e
  · obtain ⟨⟨l, m, t, ns, e1, h1, h2, h3, e2, h4⟩, f1, f2⟩ := ok.src a c e
    refine ⟨⟨l, m, t, ns, up e1, h1, h2, h3, up e2, h4⟩, ?_, ?_⟩
    · show upd W.F p o a = none
      rw [upd_ne (ne e1)]; exact f1
    · show upd W.F p o c = none
      rw [upd_ne (ne e2)]; exact f2
  · show upd W.F p o a = some u
    rw [upd_ne (ne (ok.fh _ _ e))]; exact e
  · show upd W.F p o a = none
    rw [upd_ne (ne e)]; exact n
/-- a new object that stays open -/
theorem layO {p : Addr} {o : HO} (ok : WOk W H) (hp : H p = none) : WOk W (upd H p o) ∧ Gr W W H (upd H p o) ∧ W.F p = none ∧ ¬ W.In p := by
  have hF : W.F p = none := by
    cases e : W.F p with
    | none => rfl
    | some u => rw [ok.fh _ _ e] at hp; cases hp
  have ne : ∀ {a : Addr} {u : HO}, H a = some u → a ≠ p := fun e z => by rw [z, hp] at e; cases e
  have up : ∀ {a : Addr} {u : HO}, H a = some u → upd H p o a = some u := fun e => by rw [upd_ne (ne e)]; exact e
  refine ⟨⟨fun a u e => up (ok.fh _ _ e), fun a c e => ?_, ok.inj⟩, ⟨fun a u e => e, fun a c e => e, fun a u e _ => up e, fun a u e => ⟨u, up e⟩, fun a u e n => n, fun a u e n => n⟩, hF, ?_⟩
  · obtain ⟨⟨l, m, t, ns, e1, h1, h2, h3, e2, h4⟩, f1, f2⟩ := ok.src a c e
    exact ⟨⟨l, m, t, ns, up e1, h1, h2, h3, up e2, h4⟩, f1, f2⟩
  · rintro ⟨b, c, e, z⟩
    obtain ⟨⟨l, m, t, ns, e1, _, _, _, e2, _⟩, _, _⟩ := ok.src b c e
    rcases z with rfl | rfl
    · rw [hp] at e1; cases e1
    · rw [hp] at e2; cases e2
/-- an open object written -/
theorem wrO {p : Addr} {o u : HO} (ok : WOk W H) (hp : H p = some u) (hF : W.F p = none) (hI : ¬ W.In p) : WOk W (upd H p o) := by
  have ne : ∀ {a : Addr} {q : HO}, W.F a = some q → a ≠ p := fun e z => by rw [z, hF] at e; cases e
  refine ⟨fun a q e => by rw [upd_ne (ne e)]; exact ok.fh _ _ e, fun a c e => ?_, ok.inj⟩
  obtain ⟨⟨l, m, t, ns, e1, h1, h2, h3, e2, h4⟩, f1, f2⟩ := ok.src a c e
  have na : a ≠ p := fun z => hI ⟨a, c, e, .inl z.symm⟩
  have nc : c ≠ p := fun z => hI ⟨a, c, e, .inr z.symm⟩
  exact ⟨⟨l, m, t, ns, by rw [upd_ne na]; exact e1, h1, h2, h3, by rw [upd_ne nc]; exact e2, h4⟩, f1, f2⟩
end

/-! ### environments -/
/-- a slot: not known, a frozen datum, an open one of the def's own -/
inductive Sl where
  | u | f (d : PyData) | o (d : PyData)
abbrev En := List Sl
def Own (K : PySem.W.Frag) (W : Wd) (H : Hp) (v : V) : PyData → Prop
  | .list ds => ∃ a xs, v = .ref a ∧ W.F a = none ∧ ¬ W.In a ∧ H a = some (.lst xs) ∧ DmAll K W xs ds
  | _ => False
structure Rel (K : PySem.W.Frag) (W : Wd) (H : Hp) (env : En) (σ : L2.St) : Prop where
  len : env.length = σ.length
  fz : ∀ (i : Nat) (d : PyData), env[i]? = some (Sl.f d) → ∃ v, σ[i]? = some (some v) ∧ Dm K W v d
  op : ∀ (i : Nat) (d : PyData), env[i]? = some (Sl.o d) → ∃ v, σ[i]? = some (some v) ∧ Own K W H v d
  sep : ∀ (i j : Nat) (d e : PyData) (v : V), i ≠ j → env[i]? = some (Sl.o d) → env[j]? = some (Sl.o e) → σ[i]? = some (some v) → σ[j]? ≠ some (some v)
section
variable {K : PySem.W.Frag} {W W' : Wd} {H H' : Hp} {env : En} {σ : L2.St}
theorem Own.gr {v : V} {d : PyData} (h : Own K W H v d) (g : Gr W W' H H') : Own K W' H' v d := by
  cases d with
  | list ds =>
    obtain ⟨a, xs, rfl, f, n, e, h⟩ := h
    exact ⟨a, xs, rfl, g.nf _ _ e f, g.ns _ _ e n, g.h _ _ e n, g.dms h⟩
  | _ => exact h.elim
theorem Rel.gr (r : Rel K W H env σ) (g : Gr W W' H H') : Rel K W' H' env σ :=
  ⟨r.len, fun i d e => let ⟨v, e1, h⟩ := r.fz i d e; ⟨v, e1, g.dm h⟩, fun i d e => let ⟨v, e1, h⟩ := r.op i d e; ⟨v, e1, h.gr g⟩, r.sep⟩
end

/-! ### readings -/
abbrev RP := PyData → Prop
abbrev RE := En → RP → Prop
abbrev RT := En → (Bool → Prop) → Prop
abbrev RA := En → (List PyData → Prop) → Prop
structure ME where
  nx : En → Prop
  rt : RP
  bk : En → Prop := fun _ => False
  ct : En → Prop := fun _ => False
abbrev RS := En → ME → Prop

/-- the value is new, and open -/
def Fresh (K : PySem.W.Frag) (H : Hp) (W' : Wd) (H' : Hp) (v : V) (d : PyData) : Prop := ∃ a, v = .ref a ∧ H a = none ∧ Own K W' H' v d
def Weak (K : PySem.W.Frag) (W' : Wd) (H' : Hp) (v : V) (d : PyData) : Prop := Dm K W' v d ∨ Own K W' H' v d

def tM (K : PySem.W.Frag) (r : RE) : TE := fun σ H Q => ∃ env W, Rel K W H env σ ∧ WOk W H ∧ ∃ P, r env P ∧ ∀ d, P d → ∀ v W' H', WOk W' H' → Gr W W' H H' → Dm K W' v d → Q v H'
def tMw (K : PySem.W.Frag) (r : RE) : TE := fun σ H Q => ∃ env W, Rel K W H env σ ∧ WOk W H ∧ ∃ P, r env P ∧ ∀ d, P d → ∀ v W' H', WOk W' H' → Gr W W' H H' → Weak K W' H' v d → Q v H'
def tMf (K : PySem.W.Frag) (r : RE) : TE := fun σ H Q => ∃ env W, Rel K W H env σ ∧ WOk W H ∧ ∃ P, r env P ∧ ∀ d, P d → ∀ v W' H', WOk W' H' → Gr W W' H H' → Fresh K H W' H' v d → Q v H'
def tMT (K : PySem.W.Frag) (r : RT) : TT := fun σ H Q => ∃ env W, Rel K W H env σ ∧ WOk W H ∧ ∃ P : Bool → Prop, r env P ∧ ∀ b, P b → ∀ W' H', WOk W' H' → Gr W W' H H' → Q b H'
def tMA (K : PySem.W.Frag) (r : RA) : TA := fun σ H Q => ∃ env W, Rel K W H env σ ∧ WOk W H ∧ ∃ P : List PyData → Prop, r env P ∧ ∀ ds, P ds → ∀ vs W' H', WOk W' H' → Gr W W' H H' → DmAll K W' vs ds → Q vs H'
/-! ### the readings' words -/
def rVar (i : Nat) : RE := fun env P => match env[i]? with
  | some (Sl.f d) => P d
  | _ => False
def rVarW (i : Nat) : RE := fun env P => match env[i]? with
  | some (Sl.f d) => P d
  | some (Sl.o d) => P d
  | _ => False
def rC (d : PyData) : RE := fun _ P => P d
def rOp (k : PyData → PyData → RP → Prop) (ra rb : RE) : RE := fun env P => ra env fun x => rb env fun y => k x y P
def rUn (k : PyData → RP → Prop) (ra : RE) : RE := fun env P => ra env fun x => k x P
def aNil : RA := fun _ P => P []
def aCons (ra : RE) (rr : RA) : RA := fun env P => ra env fun x => rr env fun xs => P (x :: xs)
def rFn (k : List PyData → RP → Prop) (ra : RA) : RE := fun env P => ra env fun xs => k xs P
def rTup (ra : RA) : RE := fun env P => ra env fun xs => P (.tuple xs)
def rLst (ra : RA) : RE := fun env P => ra env fun xs => P (.list xs)
def rIf (rt : RT) (ra rb : RE) : RE := fun env P => rt env fun b => if b = true then ra env P else rb env P
def tB' (ra : RE) : RT := fun env P => ra env fun d => match d with
  | .bool b => P b
  | _ => False
def tAndM (t u : RT) : RT := fun env P => t env fun c => if c = true then u env P else P false
def tOrM (t u : RT) : RT := fun env P => t env fun c => if c = true then P true else u env P
def tNotM (t : RT) : RT := fun env P => t env fun c => P (!c)
/-- a test's answer as a value -/
def rAndV (ra rb : RE) : RE := fun env P => ra env fun x => match x with
  | .bool c => if c = true then rb env P else P (.bool false)
  | _ => False
def rOrV (ra rb : RE) : RE := fun env P => ra env fun x => match x with
  | .bool c => if c = true then P (.bool true) else rb env P
  | _ => False
def rNotV (ra : RE) : RE := fun env P => ra env fun x => match x with
  | .bool c => P (.bool (!c))
  | _ => False
end MM
set_option Elab.async false
set_option linter.all false
set_option maxRecDepth 100000
set_option maxHeartbeats 1000000
/-! M2: expressions -/
namespace MM
open PySem PySem.Spec L2
section
variable {X : Cx}
theorem imE {e : Expr} {t t' : TE} (h : PE X e t) (f : ∀ σ H Q, t' σ H Q → t σ H Q) : PE X e t' := ⟨fun pins s σ H Q I q => h.run pins s σ H Q I (f σ H Q q)⟩
theorem imT {e : Expr} {t t' : TT} (h : PT X e t) (f : ∀ σ H Q, t' σ H Q → t σ H Q) : PT X e t' := ⟨fun pins s σ H Q I q => h.run pins s σ H Q I (f σ H Q q)⟩
theorem imW {e : Expr} {t t' : TT} (h : PW X e t) (f : ∀ σ H Q, t' σ H Q → t σ H Q) : PW X e t' := ⟨fun wh pins s σ H Q I q => h.run wh pins s σ H Q I (f σ H Q q)⟩
theorem imA {es : List Expr} {t t' : TA} (h : PA X es t) (f : ∀ σ H Q, t' σ H Q → t σ H Q) : PA X es t' := ⟨fun pos pins s σ H Q I q => h.run pos pins s σ H Q I (f σ H Q q)⟩
theorem imS {st : Stmt} {t t' : TS} (h : PS X st t) (f : ∀ D σ H, t' D σ H → t D σ H) : PS X st t' := ⟨fun pins s σ H D I q => h.run pins s σ H D I (f D σ H q)⟩
theorem imSs {st : List Stmt} {t t' : TS} (h : PSs X st t) (f : ∀ D σ H, t' D σ H → t D σ H) : PSs X st t' := ⟨fun pins s σ H D I q => h.run pins s σ H D I (f D σ H q)⟩
end

/-! ### weak, fresh -/
section
variable {K : PySem.W.Frag} {W W' : Wd} {H H' : Hp} {v : V} {d : PyData}
theorem Weak.gr (h : Weak K W H v d) (g : Gr W W' H H') : Weak K W' H' v d := h.elim (fun x => .inl (g.dm x)) fun x => .inr (x.gr g)
theorem Weak.int {i : Int} (h : Weak K W H v (.int i)) : v = .int i := by
  rcases h with h | h
  · cases h; rfl
  · exact h.elim
theorem Weak.bool {i : Bool} (h : Weak K W H v (.bool i)) : v = .bl i := by
  rcases h with h | h
  · cases h; rfl
  · exact h.elim
theorem Weak.str {i : Str} (h : Weak K W H v (.str i)) : v = .str i := by
  rcases h with h | h
  · cases h; rfl
  · exact h.elim
theorem Weak.non (h : Weak K W H v .none) : v = .non := by
  rcases h with h | h
  · cases h; rfl
  · exact h.elim
theorem Weak.tup {ds : List PyData} (ok : WOk W H) (h : Weak K W H v (.tuple ds)) : ∃ a xs, v = .ref a ∧ SqT K H a xs ∧ DmAll K W xs ds ∧ SqT K W.F a xs := by
  rcases h with h | h
  · cases h with
    | tup h1 h2 => exact ⟨_, _, rfl, SqT.gr ok.fh h1, h2, h1⟩
  · exact h.elim
theorem Weak.lst {ds : List PyData} (ok : WOk W H) (h : Weak K W H v (.list ds)) : ∃ a xs, v = .ref a ∧ H a = some (.lst xs) ∧ DmAll K W xs ds := by
  rcases h with h | h
  · cases h with
    | lst h1 h2 => exact ⟨_, _, rfl, ok.fh _ _ h1, h2⟩
  · obtain ⟨a, xs, rfl, _, _, e, h⟩ := h
    exact ⟨a, xs, rfl, e, h⟩
theorem Weak.dp (ok : WOk W H) (c : PyData.canLay0 d = true) (h : Weak K W H v d) : Dp K H v d := by
  rcases h with h | h
  · exact h.dp ok.fh c
  · cases d with
    | list ds =>
      obtain ⟨a, xs, rfl, _, _, e, h⟩ := h
      exact .lst (SqL.of e) (h.dp ok.fh (by simpa [PyData.canLay0] using c))
    | _ => exact h.elim
/-- an open list frozen -/
theorem Own.freeze {ds : List PyData} (ok : WOk W H) (h : Own K W H v (.list ds)) : ∃ a xs, v = .ref a ∧ H a = some (.lst xs) ∧ WOk ⟨upd W.F a (.lst xs), W.S⟩ H ∧ Dm K ⟨upd W.F a (.lst xs), W.S⟩ v (.list ds) := by
  obtain ⟨a, xs, rfl, f, n, e, h⟩ := h
  have hf : ∀ b o, W.F b = some o → upd W.F a (.lst xs) b = some o := fun b o q => by
    rw [upd_ne (fun z => by rw [z, f] at q; cases q)]; exact q
  refine ⟨a, xs, rfl, e, ⟨fun b o q => ?_, fun b c q => ?_, ok.inj⟩, .lst upd_same (h.gr (W' := ⟨upd W.F a (.lst xs), W.S⟩) hf fun _ _ q => q)⟩
  · have q : upd W.F a (.lst xs) b = some o := q
    by_cases hb : b = a
    · subst hb; rw [upd_same] at q; cases q; exact e
    · rw [upd_ne hb] at q; exact ok.fh _ _ q
  · obtain ⟨s, f1, f2⟩ := ok.src b c q
    refine ⟨s, ?_, ?_⟩
    · show upd W.F a (.lst xs) b = none
      rw [upd_ne (fun z => n ⟨b, c, q, .inl z.symm⟩)]; exact f1
    · show upd W.F a (.lst xs) c = none
      rw [upd_ne (fun z => n ⟨b, c, q, .inr z.symm⟩)]; exact f2
/-- .. where it is new since W, H -/
theorem Own.freezeG {W0 : Wd} {H0 : Hp} {ds : List PyData} (ok : WOk W H) (g : Gr W0 W H0 H) (h : Own K W H v (.list ds)) (new : ∀ a, v = .ref a → H0 a = none) :
    ∃ W', WOk W' H ∧ Gr W0 W' H0 H ∧ Dm K W' v (.list ds) := by
  have hh := h
  obtain ⟨a, xs, rfl, e, ok', dm⟩ := h.freeze ok
  obtain ⟨a', xs', e1, f, n, _, _⟩ := hh
  cases e1
  have na := new a rfl
  refine ⟨_, ok', ⟨fun b o q => ?_, g.s, g.h, g.hs, fun b o q z => ?_, g.ns⟩, dm⟩
  · have q' := g.f b o q
    show upd W.F a (.lst xs) b = some o
    rw [upd_ne (fun z => by rw [z, f] at q'; cases q')]; exact q'
  · show upd W.F a (.lst xs) b = none
    rw [upd_ne (fun y => by rw [y, na] at q; cases q)]; exact g.nf b o q z
end
section
variable {X : Cx} {e : Expr} {r : RE}
theorem weak (h : PE X e (tM X.K r)) : PE X e (tMw X.K r) := imE h fun σ H Q ⟨env, W, rel, ok, P, hr, hq⟩ => ⟨env, W, rel, ok, P, hr, fun d p v W' H' o g x => hq d p v W' H' o g (.inl x)⟩
theorem thaw (h : PE X e (tMf X.K r)) : PE X e (tM X.K r) := imE h fun σ H Q ⟨env, W, rel, ok, P, hr, hq⟩ => ⟨env, W, rel, ok, P, hr, fun d p v W' H' o g x => by
  obtain ⟨a, rfl, hn, own⟩ := x
  cases d with
  | list ds =>
    obtain ⟨W2, o2, g2, dm⟩ := own.freezeG o g fun b z => by cases z; exact hn
    exact hq _ p _ W2 H' o2 g2 dm
  | _ => exact own.elim⟩
theorem thawW (h : PE X e (tMf X.K r)) : PE X e (tMw X.K r) := weak (thaw h)
end

/-! ### names and constants -/
section
variable {X : Cx} {pos : Pos} {j : Option Str}
theorem var_of {K : PySem.W.Frag} {i : Nat} {σ : L2.St} {H : Hp} {Q : VK} (h : tM K (rVar i) σ H Q) : tVar i σ H Q := by
  obtain ⟨env, W, rel, ok, P, hr, hq⟩ := h
  unfold rVar at hr
  split at hr
  · rename_i d e
    obtain ⟨v, e1, dm⟩ := rel.fz i d e
    exact ⟨v, e1, hq d hr v W H ok (Gr.refl W H) dm⟩
  · exact hr.elim
theorem varw_of {K : PySem.W.Frag} {i : Nat} {σ : L2.St} {H : Hp} {Q : VK} (h : tMw K (rVarW i) σ H Q) : tVar i σ H Q := by
  obtain ⟨env, W, rel, ok, P, hr, hq⟩ := h
  unfold rVarW at hr
  split at hr
  · rename_i d e
    obtain ⟨v, e1, dm⟩ := rel.fz i d e
    exact ⟨v, e1, hq d hr v W H ok (Gr.refl W H) (.inl dm)⟩
  · rename_i d e
    obtain ⟨v, e1, dm⟩ := rel.op i d e
    exact ⟨v, e1, hq d hr v W H ok (Gr.refl W H) (.inr dm)⟩
  · exact hr.elim
/-- the name in the slot i: strong, weak -/
theorem mv (i : Nat) {x : Str} (hN : X.N[i]? = some x := by rfl) (hv : Vis X.env.scope x := by first | exact Or.inl rfl | exact Or.inr (Or.inl rfl) | exact Or.inr (Or.inr rfl)) (hd : (x == ("__debug__" : Str)) = false := by decide)
    (hcd : (x == ("__classdict__" : Str)) = false := by decide) : PE X (.Name x pos) (tM X.K (rVar i)) := imE (pe_var hN hv hd hcd) fun _ _ _ h => var_of h
theorem mw (i : Nat) {x : Str} (hN : X.N[i]? = some x := by rfl) (hv : Vis X.env.scope x := by first | exact Or.inl rfl | exact Or.inr (Or.inl rfl) | exact Or.inr (Or.inr rfl)) (hd : (x == ("__debug__" : Str)) = false := by decide)
    (hcd : (x == ("__classdict__" : Str)) = false := by decide) : PE X (.Name x pos) (tMw X.K (rVarW i)) := imE (pe_var hN hv hd hcd) fun _ _ _ h => varw_of h
theorem c_of {K : PySem.W.Frag} {d : PyData} {v : V} {σ : L2.St} {H : Hp} {Q : VK} (hd : ∀ W, Dm K W v d) (h : tM K (rC d) σ H Q) : tC v σ H Q := by
  obtain ⟨env, W, rel, ok, P, hr, hq⟩ := h
  exact hq d hr v W H ok (Gr.refl W H) (hd W)
theorem mint {i : Int} {jj} : PE X (.Constant (.int i) jj pos) (tM X.K (rC (.int i))) := imE pe_int fun _ _ _ h => c_of (fun _ => .int i) h
theorem mbl {b : Bool} {jj} : PE X (.Constant (.bool b) jj pos) (tM X.K (rC (.bool b))) := imE pe_bl fun _ _ _ h => c_of (fun _ => .bl b) h
theorem mnon {jj} : PE X (.Constant .none jj pos) (tM X.K (rC .none)) := imE pe_non fun _ _ _ h => c_of (fun _ => .non) h
theorem mstr {x : Str} {jj} : PE X (.Constant (.str x) jj pos) (tM X.K (rC (.str x))) := imE pe_str fun _ _ _ h => c_of (fun _ => .str x) h
end

/-! ### operations of two values -/
abbrev K2 := PyData → PyData → RP → Prop
def KopR (K : PySem.W.Frag) (k : K2) : R2 := fun x y H Q => ∃ W d e P, WOk W H ∧ Weak K W H x d ∧ Weak K W H y e ∧ k d e P ∧ ∀ r, P r → ∀ v W' H', WOk W' H' → Gr W W' H H' → Dm K W' v r → Q v H'
def OpM (X : Cx) (f : Value → Value → Sem Value) (k : K2) : Prop := OpR X f (KopR X.K k)
section
variable {K : PySem.W.Frag} {k : K2} {ra rb : RE} {σ : L2.St} {H : Hp} {Q : VK}
theorem bin_w (h : tM K (rOp k ra rb) σ H Q) : tOp (KopR K k) (tMw K ra) (tMw K rb) σ H Q := by
  obtain ⟨env, W, rel, ok, P, hr, hq⟩ := h
  refine ⟨env, W, rel, ok, _, hr, fun x hx v W1 H1 ok1 g1 wx => ⟨env, W1, rel.gr g1, ok1, _, hx, fun y hy u W2 H2 ok2 g2 wy => ?_⟩⟩
  exact ⟨W2, x, y, P, ok2, wx.gr g2, wy, hy, fun r pr v' W' H' ok' g' dm => hq r pr v' W' H' ok' ((g1.trans g2).trans g') dm⟩
end
section
variable {X : Cx} {a b : Expr} {ra rb : RE} {pos : Pos} {k : K2}
theorem mop {op : Operator} (ho : OpM X (binaryOp op) k) (ha : PE X a (tMw X.K ra)) (hb : PE X b (tMw X.K rb)) : PE X (.BinOp a op b pos) (tM X.K (rOp k ra rb)) := imE (pe_op ho ha hb) fun _ _ _ h => bin_w h
theorem mcmp {op : CmpOp} (ho : OpM X (compareOp op) k) (ha : PE X a (tMw X.K ra)) (hb : PE X b (tMw X.K rb)) (hm : behindInMarks op b = false := by first | exact nomark _ | rfl) : PE X (.Compare a [op] [b] pos) (tM X.K (rOp k ra rb)) :=
  imE (pe_cmpR ho ha hb hm) fun _ _ _ h => bin_w h
theorem test_of {K : PySem.W.Frag} {r : RE} {σ : L2.St} {H : Hp} {Q : Bool → Hp → Prop} (h : tMT K (tB' r) σ H Q) : tM K r σ H fun x H' => ∃ c, x = .bl c ∧ Q c H' := by
  obtain ⟨env, W, rel, ok, P, hr, hq⟩ := h
  refine ⟨env, W, rel, ok, _, hr, fun d p v W' H' o g dm => ?_⟩
  cases d with
  | bool c => cases dm; exact ⟨c, rfl, hq c p W' H' o g⟩
  | _ => exact p.elim
theorem mtcmp {op : CmpOp} (ho : OpM X (compareOp op) k) (ha : PE X a (tMw X.K ra)) (hb : PE X b (tMw X.K rb)) (hm : behindInMarks op b = false := by first | exact nomark _ | rfl) : PT X (.Compare a [op] [b] pos) (tMT X.K (tB' (rOp k ra rb))) :=
  imT (pt_cmpR ho ha hb hm) fun _ _ _ h => bin_w (test_of h)
/-- an expression whose value is a bool, as a test -/
theorem mtv {r : RE} (h : PE X a (tM X.K r)) (he : ∀ whole, isTrue a X.env whole = (do let v ← whole; standAt a.pos; holding [v] (truthy v)) := by intro _; rfl) : PT X a (tMT X.K (tB' r)) :=
  imT (pt_val h he) fun _ _ _ h => test_of h
/-- a op b op' c -/
def rChain (k k' : K2) (ra rb rc : RE) : RE := fun env P => ra env fun x => rb env fun y => k x y fun t => match t with
  | .bool c => if c = true then rc env fun z => k' y z P else P (.bool false)
  | _ => False
theorem chain_of {K : PySem.W.Frag} {k k' : K2} {ra rb rc : RE} {σ : L2.St} {H : Hp} {Q : VK} (h : tM K (rChain k k' ra rb rc) σ H Q) : tChain (KopR K k) (KopR K k') (tMw K ra) (tMw K rb) (tMw K rc) σ H Q := by
  obtain ⟨env, W, rel, ok, P, hr, hq⟩ := h
  refine ⟨env, W, rel, ok, _, hr, fun x hx v W1 H1 ok1 g1 wx => ⟨env, W1, rel.gr g1, ok1, _, hx, fun y hy u W2 H2 ok2 g2 wy => ?_⟩⟩
  refine ⟨W2, x, y, _, ok2, wx.gr g2, wy, hy, fun t pt v' W3 H3 ok3 g3 dm => ?_⟩
  cases t with
  | bool c =>
    cases dm
    refine ⟨c, rfl, ?_⟩
    cases c with
    | true =>
      rw [if_pos rfl]
      have pt : rc env fun z => k' y z P := pt
      refine ⟨env, W3, rel.gr ((g1.trans g2).trans g3), ok3, _, pt, fun z hz w W4 H4 ok4 g4 wz => ?_⟩
      exact ⟨W4, y, z, P, ok4, (wy.gr g3).gr g4, wz, hz, fun r pr v' W' H' ok' g' dm => hq r pr v' W' H' ok' ((((g1.trans g2).trans g3).trans g4).trans g') dm⟩
    | false =>
      rw [if_neg Bool.false_ne_true]
      have pt : P (.bool false) := pt
      exact hq _ pt _ W3 H3 ok3 ((g1.trans g2).trans g3) (.bl _)
  | _ => exact pt.elim
variable {c : Expr} {rc : RE} {k' : K2}
theorem mchain {op op' : CmpOp} (ho : OpM X (compareOp op) k) (ho' : OpM X (compareOp op') k') (ha : PE X a (tMw X.K ra)) (hb : PE X b (tMw X.K rb)) (hc : PE X c (tMw X.K rc)) (hm : lastMarks [op, op'] [b, c] = false := by with_unfolding_all rfl) :
    PE X (.Compare a [op, op'] [b, c] pos) (tM X.K (rChain k k' ra rb rc)) := imE (pe_chain ho ho' ha hb hc hm) fun _ _ _ h => chain_of h
theorem mtchain {op op' : CmpOp} (ho : OpM X (compareOp op) k) (ho' : OpM X (compareOp op') k') (ha : PE X a (tMw X.K ra)) (hb : PE X b (tMw X.K rb)) (hc : PE X c (tMw X.K rc)) (hm : lastMarks [op, op'] [b, c] = false := by with_unfolding_all rfl) :
    PT X (.Compare a [op, op'] [b, c] pos) (tMT X.K (tB' (rChain k k' ra rb rc))) := imT (pt_chain ho ho' ha hb hc hm) fun _ _ _ h => chain_of (test_of h)
end

/-! ### the operators -/
def kAdd : K2 := fun x y P => match x, y with
  | .int i, .int j => P (.int (i + j))
  | .tuple xs, .tuple ys => xs.length + ys.length ≤ sizeLine ∧ P (.tuple (xs ++ ys))
  | .list xs, .list ys => xs.length + ys.length ≤ sizeLine ∧ P (.list (xs ++ ys))
  | .str a, .str b => a.length + b.length ≤ sizeLine ∧ P (.str (a ++ b))
  | _, _ => False
def kSub : K2 := fun x y P => match x, y with
  | .int i, .int j => P (.int (i - j))
  | _, _ => False
def kMul : K2 := fun x y P => match x, y with
  | .int i, .int j => IntMulOk i j ∧ P (.int (i * j))
  | _, _ => False
def kDiv : K2 := fun x y P => match x, y with
  | .int i, .int j => (0 < j ∧ j.natAbs.log2 < 9000) ∧ P (.int (i / j))
  | _, _ => False
def kMod : K2 := fun x y P => match x, y with
  | .int i, .int j => 0 < j ∧ P (.int (i % j))
  | _, _ => False
def kDivN : K2 := fun x y P => match x, y with
  | .int i, .int j => (j ≠ 0 ∧ j.natAbs < 1073741824) ∧ P (.int (i.fdiv j))
  | _, _ => False
def kModN : K2 := fun x y P => match x, y with
  | .int i, .int j => j ≠ 0 ∧ P (.int (i.fmod j))
  | _, _ => False
def kPow : K2 := fun x y P => match x, y with
  | .int i, .int j => CPow i j ∧ P (.int (i ^ j.toNat))
  | _, _ => False
def kShl : K2 := fun x y P => match x, y with
  | .int i, .int j => CPow i j ∧ P (.int (i * 2 ^ j.toNat))
  | _, _ => False
def kCmp (p : Int → Int → Bool) : K2 := fun x y P => match x, y with
  | .int i, .int j => P (.bool (p i j))
  | _, _ => False
abbrev kLt : K2 := kCmp fun i j => decide (i < j)
abbrev kLe : K2 := kCmp fun i j => decide (i ≤ j)
abbrev kGt : K2 := kCmp fun i j => decide (j < i)
abbrev kGe : K2 := kCmp fun i j => decide (j ≤ i)
/-- ==, !=: ints at once; other data where their form allows -/
def kEq : K2 := fun x y P => match x, y with
  | .int i, .int j => P (.bool (decide (i = j)))
  | .str i, .str j => P (.bool (decide (i = j)))
  | .bool i, .bool j => P (.bool (decide (i = j)))
  | x, y => SeqAt.shaped x = true ∧ SeqAt.shaped y = true ∧ P (.bool (PyData.eqv x y))
def kNe : K2 := fun x y P => match x, y with
  | .int i, .int j => P (.bool (!decide (i = j)))
  | .str i, .str j => P (.bool (!decide (i = j)))
  | .bool i, .bool j => P (.bool (!decide (i = j)))
  | x, y => SeqAt.shaped x = true ∧ SeqAt.shaped y = true ∧ P (.bool (!PyData.eqv x y))
def isNoneD : PyData → Bool
  | .none => true
  | _ => false
/-- is None, is True -/
def kIs : K2 := fun x y P => match y with
  | .none => P (.bool (isNoneD x))
  | .bool b => match x with
    | .bool a => P (.bool (decide (a = b)))
    | _ => False
  | _ => False
def kIsNot : K2 := fun x y P => match y with
  | .none => P (.bool (!isNoneD x))
  | .bool b => match x with
    | .bool a => P (.bool (!decide (a = b)))
    | _ => False
  | _ => False
section
variable {X : Cx}
theorem opI_M {f : Value → Value → Sem Value} {C : Int → Int → Prop} {g : Int → Int → Int} {k : K2} (hk : ∀ x y P, k x y P → ∃ i j, x = .int i ∧ y = .int j ∧ C i j ∧ P (.int (g i j))) (h : OpR X f (rI C fun i j => .int (g i j))) : OpM X f k := by
  intro pins s σ H x y v u Q I rx ry ⟨W, d, e, P, ok, wx, wy, q, hq⟩
  obtain ⟨i, j, rfl, rfl, c, p⟩ := hk _ _ _ q
  have := wx.int; subst this
  have := wy.int; subst this
  exact h pins s σ H _ _ v u Q I rx ry ⟨i, j, rfl, rfl, c, hq _ p _ W H ok (Gr.refl W H) (.int _)⟩
theorem om_sub : OpM X (binaryOp .Sub) kSub := opI_M (C := fun _ _ => True) (fun x y P h => by cases x <;> cases y <;> first | exact False.elim h | exact ⟨_, _, rfl, rfl, trivial, h⟩)
  fun pins s σ H x y v u Q I rx ry ⟨i, j, e1, e2, _, q⟩ => op_sub pins s σ H x y v u Q I rx ry ⟨i, j, e1, e2, q⟩
theorem om_mul : OpM X (binaryOp .Mult) kMul := opI_M (fun x y P h => by cases x <;> cases y <;> first | exact False.elim h | exact ⟨_, _, rfl, rfl, h.1, h.2⟩) (opI fun _ _ _ _ _ _ _ hc q => PyProof.Rows.mul_int q hc)
theorem om_div : OpM X (binaryOp .FloorDiv) kDiv := opI_M (fun x y P h => by cases x <;> cases y <;> first | exact False.elim h | exact ⟨_, _, rfl, rfl, h.1, h.2⟩) op_fdivW
theorem om_mod : OpM X (binaryOp .Mod) kMod := opI_M (fun x y P h => by cases x <;> cases y <;> first | exact False.elim h | exact ⟨_, _, rfl, rfl, h.1, h.2⟩) op_mod
theorem om_divN : OpM X (binaryOp .FloorDiv) kDivN := opI_M (fun x y P h => by cases x <;> cases y <;> first | exact False.elim h | exact ⟨_, _, rfl, rfl, h.1, h.2⟩) op_fdivN
theorem om_modN : OpM X (binaryOp .Mod) kModN := opI_M (fun x y P h => by cases x <;> cases y <;> first | exact False.elim h | exact ⟨_, _, rfl, rfl, h.1, h.2⟩) op_modN
theorem om_pow : OpM X (binaryOp .Pow) kPow := opI_M (fun x y P h => by cases x <;> cases y <;> first | exact False.elim h | exact ⟨_, _, rfl, rfl, h.1, h.2⟩) op_pow
theorem om_shl : OpM X (binaryOp .LShift) kShl := opI_M (fun x y P h => by cases x <;> cases y <;> first | exact False.elim h | exact ⟨_, _, rfl, rfl, h.1, h.2⟩) op_shl
theorem opB_M {f : Value → Value → Sem Value} {p : Int → Int → Bool} (h : OpR X f (rI0 fun i j => .bl (p i j))) : OpM X f (kCmp p) := by
  intro pins s σ H x y v u Q I rx ry ⟨W, d, e, P, ok, wx, wy, q, hq⟩
  cases d with
  | int i =>
    cases e with
    | int j =>
      have := wx.int; subst this
      have := wy.int; subst this
      exact h pins s σ H _ _ v u Q I rx ry ⟨i, j, rfl, rfl, hq _ q _ W H ok (Gr.refl W H) (.bl _)⟩
    | _ => exact q.elim
  | _ => exact False.elim q
theorem om_lt : OpM X (compareOp .Lt) kLt := opB_M op_lt
theorem om_le : OpM X (compareOp .LtE) kLe := opB_M op_le
theorem om_gt : OpM X (compareOp .Gt) kGt := opB_M op_gt
theorem om_ge : OpM X (compareOp .GtE) kGe := opB_M op_ge
theorem om_add : OpM X (binaryOp .Add) kAdd := by
  intro pins s σ H x y v u Q I rx ry ⟨W, d, e, P, ok, wx, wy, q, hq⟩
  cases d with
  | int i =>
    cases e with
    | int j =>
      have := wx.int; subst this
      have := wy.int; subst this
      exact op_add pins s σ H _ _ v u Q I rx ry ⟨i, j, rfl, rfl, hq _ q _ W H ok (Gr.refl W H) (.int _)⟩
    | _ => exact False.elim q
  | str i =>
    cases e with
    | str j =>
      have := wx.str; subst this
      have := wy.str; subst this
      exact op_add_str pins s σ H _ _ v u Q I rx ry ⟨i, j, rfl, rfl, q.1, hq _ q.2 _ W H ok (Gr.refl W H) (.str _)⟩
    | _ => exact False.elim q
  | tuple xs =>
    cases e with
    | tuple ys =>
      obtain ⟨a, vs, rfl, h1, d1, f1⟩ := wx.tup ok
      obtain ⟨b, ws, rfl, h2, d2, f2⟩ := wy.tup ok
      have l1 := d1.length
      have l2 := d2.length
      refine op_catA pins s σ H _ _ v u Q I rx ry ⟨a, b, vs, ws, rfl, rfl, h1, h2, by rw [l1, l2]; exact q.1, fun z => ?_, fun _ z => ?_, fun _ _ p hp => ?_⟩
      · subst z
        cases d1
        exact hq _ q.2 _ W H ok (Gr.refl W H) (.tup f2 d2)
      · subst z
        cases d2
        have q2 := q.2
        rw [List.append_nil] at q2
        exact hq _ q2 _ W H ok (Gr.refl W H) (.tup f1 d1)
      · obtain ⟨o', g'⟩ := lay (o := .tup (vs ++ ws)) ok hp
        exact hq _ q.2 _ _ _ o' g' (.tup (SqT.of upd_same) (g'.dms (d1.append d2)))
    | _ => exact False.elim q
  | list xs =>
    cases e with
    | list ys =>
      obtain ⟨a, vs, rfl, h1, d1⟩ := wx.lst ok
      obtain ⟨b, ws, rfl, h2, d2⟩ := wy.lst ok
      have l1 := d1.length
      have l2 := d2.length
      cases rx
      cases ry
      obtain ⟨z1, i1, n1, r1, g1⟩ := I.hok _ _ h1
      obtain ⟨z2, i2, n2, r2, g2⟩ := I.hok _ _ h2
      have k1 := r1.length
      have k2 := r2.length
      have hz := q.1
      refine PySem.P.add_list g1 g2 ?_ (by rw [List.size_toArray, List.size_toArray]; omega)
      rw [show i1.toArray ++ i2.toArray = (i1 ++ i2).toArray by simp]
      obtain ⟨o', g'⟩ := lay (o := .lst (vs ++ ws)) ok I.fresh
      exact ⟨.ref s.heap.objs.size, _, I.lnew (t' := s.toks) (r1.append r2) (by rw [List.length_append]; omega), rfl, hq _ q.2 _ _ _ o' g' (.lst upd_same (g'.dms (d1.append d2)))⟩
    | _ => exact False.elim q
  | _ => exact False.elim q
end
end MM
set_option Elab.async false
set_option linter.all false
set_option maxRecDepth 100000
set_option maxHeartbeats 1000000
/-! M3: expressions, further; built-ins -/
namespace MM
open PySem PySem.Spec L2
/-- what a rule asks of the context -/
structure MX (X : Cx) (k : Nat) : Prop where
  calm : X.calm = true
  room : Room k X.A
  gu : X.A.guards = some []
  nd : X.N.Nodup
theorem MX.hu {X : Cx} {k : Nat} (m : MX X k) : X.A.units + 64 < cLine := m.room.units
section
variable {X : Cx} {n : Nat}
/-- an int, a text, a bool: with its value -/
inductive Sc : PyData → V → Prop
  | int (i : Int) : Sc (.int i) (.int i)
  | str (i : Str) : Sc (.str i) (.str i)
  | bool (i : Bool) : Sc (.bool i) (.bl i)
theorem Weak.sc {K : PySem.W.Frag} {W : Wd} {H : Hp} {v u : V} {d : PyData} (h : Weak K W H v d) (s : Sc d u) : v = u := by
  cases s with
  | int i => exact h.int
  | str i => exact h.str
  | bool i => exact h.bool
theorem eq_cases {x y : PyData} {P : RP} (h : kEq x y P) : (∃ u v, Sc x u ∧ Sc y v ∧ scal u v = true ∧ P (.bool (decide (u = v)))) ∨ (SeqAt.shaped x = true ∧ SeqAt.shaped y = true ∧ P (.bool (PyData.eqv x y))) := by
  cases x <;> cases y <;> first
    | exact .inr h
    | exact .inl ⟨_, _, .int _, .int _, rfl, by rw [dec_int, Bool.beq_eq_decide_eq]; exact h⟩
    | exact .inl ⟨_, _, .str _, .str _, rfl, by rw [dec_str, Bool.beq_eq_decide_eq]; exact h⟩
    | exact .inl ⟨_, _, .bool _, .bool _, rfl, by rw [dec_bl, Bool.beq_eq_decide_eq]; exact h⟩
theorem ne_cases {x y : PyData} {P : RP} (h : kNe x y P) : (∃ u v, Sc x u ∧ Sc y v ∧ scal u v = true ∧ P (.bool (!decide (u = v)))) ∨ (SeqAt.shaped x = true ∧ SeqAt.shaped y = true ∧ P (.bool (!PyData.eqv x y))) := by
  cases x <;> cases y <;> first
    | exact .inr h
    | exact .inl ⟨_, _, .int _, .int _, rfl, by rw [dec_int, Bool.beq_eq_decide_eq]; exact h⟩
    | exact .inl ⟨_, _, .str _, .str _, rfl, by rw [dec_str, Bool.beq_eq_decide_eq]; exact h⟩
    | exact .inl ⟨_, _, .bool _, .bool _, rfl, by rw [dec_bl, Bool.beq_eq_decide_eq]; exact h⟩
theorem om_eq (m : MX X n) : OpM X (compareOp .Eq) kEq := by
  intro pins s σ H x y v u Q I rx ry ⟨W, d, e, P, ok, wx, wy, q, hq⟩
  rcases eq_cases q with ⟨i, j, h1, h2, h3, q⟩ | ⟨h1, h2, q⟩
  · have := wx.sc h1; subst this
    have := wy.sc h2; subst this
    exact L2.op_eq pins s σ H _ _ v u Q I rx ry ⟨h3, hq _ q _ W H ok (Gr.refl W H) (.bl _)⟩
  · exact op_eqD m.hu pins s σ H x y v u Q I rx ry ⟨d, e, wx.dp ok (SeqAt.canLay_of_shaped h1), wy.dp ok (SeqAt.canLay_of_shaped h2), h1, h2, hq _ q _ W H ok (Gr.refl W H) (.bl _)⟩
theorem om_ne (m : MX X n) : OpM X (compareOp .NotEq) kNe := by
  intro pins s σ H x y v u Q I rx ry ⟨W, d, e, P, ok, wx, wy, q, hq⟩
  rcases ne_cases q with ⟨i, j, h1, h2, h3, q⟩ | ⟨h1, h2, q⟩
  · have := wx.sc h1; subst this
    have := wy.sc h2; subst this
    exact L2.op_ne pins s σ H _ _ v u Q I rx ry ⟨h3, hq _ q _ W H ok (Gr.refl W H) (.bl _)⟩
  · exact op_neD m.hu pins s σ H x y v u Q I rx ry ⟨d, e, wx.dp ok (SeqAt.canLay_of_shaped h1), wy.dp ok (SeqAt.canLay_of_shaped h2), h1, h2, hq _ q _ W H ok (Gr.refl W H) (.bl _)⟩
theorem Weak.isNon {K : PySem.W.Frag} {W : Wd} {H : Hp} {v : V} {d : PyData} (h : Weak K W H v d) : decide (v = .non) = isNoneD d := by
  rcases h with h | h
  · cases h <;> rfl
  · cases d with
    | list ds =>
      obtain ⟨a, xs, rfl, _⟩ := h
      rfl
    | _ => exact h.elim
theorem om_is : OpM X (compareOp .Is) kIs := by
  intro pins s σ H x y v u Q I rx ry ⟨W, d, e, P, ok, wx, wy, q, hq⟩
  cases e with
  | none =>
    have := wy.non; subst this
    refine op_isN pins s σ H _ _ v u Q I rx ry ⟨rfl, ?_⟩
    rw [wx.isNon]
    exact hq _ q _ W H ok (Gr.refl W H) (.bl _)
  | bool b =>
    cases d with
    | bool a =>
      have := wx.bool; subst this
      have := wy.bool; subst this
      exact op_isBl pins s σ H _ _ v u Q I rx ry ⟨a, b, rfl, rfl, hq _ q _ W H ok (Gr.refl W H) (.bl _)⟩
    | _ => exact False.elim q
  | _ => exact False.elim q
theorem om_isnot : OpM X (compareOp .IsNot) kIsNot := by
  intro pins s σ H x y v u Q I rx ry ⟨W, d, e, P, ok, wx, wy, q, hq⟩
  cases e with
  | none =>
    have := wy.non; subst this
    refine op_notN pins s σ H _ _ v u Q I rx ry ⟨rfl, ?_⟩
    rw [wx.isNon]
    exact hq _ q _ W H ok (Gr.refl W H) (.bl _)
  | bool b =>
    cases d with
    | bool a =>
      have := wx.bool; subst this
      have := wy.bool; subst this
      exact op_notBl pins s σ H _ _ v u Q I rx ry ⟨a, b, rfl, rfl, hq _ q _ W H ok (Gr.refl W H) (.bl _)⟩
    | _ => exact False.elim q
  | _ => exact False.elim q
end

/-! ### one value -/
abbrev K1 := PyData → RP → Prop
def KunR (K : PySem.W.Frag) (k : K1) : V → Hp → VK → Prop := fun x H Q => ∃ W d P, WOk W H ∧ Weak K W H x d ∧ k d P ∧ ∀ r, P r → ∀ v W' H', WOk W' H' → Gr W W' H H' → Dm K W' v r → Q v H'
theorem un_w {K : PySem.W.Frag} {k : K1} {ra : RE} {σ : L2.St} {H : Hp} {Q : VK} (h : tM K (rUn k ra) σ H Q) : tMw K ra σ H fun x H1 => KunR K k x H1 Q := by
  obtain ⟨env, W, rel, ok, P, hr, hq⟩ := h
  exact ⟨env, W, rel, ok, _, hr, fun x hx v W1 H1 ok1 g1 wx => ⟨W1, x, P, ok1, wx, hx, fun r pr v' W' H' ok' g' dm => hq r pr v' W' H' ok' (g1.trans g') dm⟩⟩
def kNeg : K1 := fun x P => match x with
  | .int i => P (.int (-i))
  | _ => False
section
variable {X : Cx} {a b c : Expr} {ra rb : RE} {pos : Pos} {rest : List Expr} {t u : RT}
theorem mneg (ha : PE X a (tMw X.K ra)) : PE X (.UnaryOp .USub a pos) (tM X.K (rUn kNeg ra)) := imE (pe_un un_neg ha) fun σ H Q h => by
  obtain ⟨env, W, rel, ok, P, hr, hq⟩ := un_w h
  refine ⟨env, W, rel, ok, P, hr, fun d p v W' H' o g wx => ?_⟩
  obtain ⟨W1, d1, P1, ok1, w1, k1, q1⟩ := hq d p v W' H' o g wx
  cases d1 with
  | int i =>
    have := w1.int; subst this
    exact ⟨i, rfl, q1 _ k1 _ W1 H' ok1 (Gr.refl _ _) (.int _)⟩
  | _ => exact k1.elim
/-! ### and, or, not, if -/
theorem mt_and1 (ha : PT X a (tMT X.K t)) : PW X (.BoolOp .And [a] pos) (tMT X.K t) := pw_and1 ha
theorem mt_or1 (ha : PT X a (tMT X.K t)) : PW X (.BoolOp .Or [a] pos) (tMT X.K t) := pw_or1 ha
theorem mt_and (ha : PT X a (tMT X.K t)) (hb : PW X (.BoolOp .And (b :: rest) pos) (tMT X.K u)) : PW X (.BoolOp .And (a :: b :: rest) pos) (tMT X.K (tAndM t u)) := imW (pw_and ha hb) fun σ H Q h => by
  obtain ⟨env, W, rel, ok, P, hr, hq⟩ := h
  refine ⟨env, W, rel, ok, _, hr, fun b p W' H' o g => ?_⟩
  cases b with
  | true =>
    rw [if_pos rfl] at p ⊢
    exact ⟨env, W', rel.gr g, o, P, p, fun b p W2 H2 o2 g2 => hq b p W2 H2 o2 (g.trans g2)⟩
  | false =>
    rw [if_neg Bool.false_ne_true] at p ⊢
    exact hq _ p W' H' o g
theorem mt_or (ha : PT X a (tMT X.K t)) (hb : PW X (.BoolOp .Or (b :: rest) pos) (tMT X.K u)) : PW X (.BoolOp .Or (a :: b :: rest) pos) (tMT X.K (tOrM t u)) := imW (pw_or ha hb) fun σ H Q h => by
  obtain ⟨env, W, rel, ok, P, hr, hq⟩ := h
  refine ⟨env, W, rel, ok, _, hr, fun b p W' H' o g => ?_⟩
  cases b with
  | false =>
    rw [if_neg Bool.false_ne_true] at p ⊢
    exact ⟨env, W', rel.gr g, o, P, p, fun b p W2 H2 o2 g2 => hq b p W2 H2 o2 (g.trans g2)⟩
  | true =>
    rw [if_pos rfl] at p ⊢
    exact hq _ p W' H' o g
theorem mt_not (ha : PT X a (tMT X.K t)) : PT X (.UnaryOp .Not a pos) (tMT X.K (tNotM t)) := imT (pt_not ha) fun σ H Q h => by
  obtain ⟨env, W, rel, ok, P, hr, hq⟩ := h
  exact ⟨env, W, rel, ok, _, hr, fun b p W' H' o g => hq _ p W' H' o g⟩
theorem mand1 {op} (ha : PE X a (tM X.K ra)) : PE X (.BoolOp op [a] pos) (tM X.K ra) := pe_one ha
theorem mand (ha : PE X a (tM X.K ra)) (hb : PE X (.BoolOp .And (b :: rest) pos) (tM X.K rb)) : PE X (.BoolOp .And (a :: b :: rest) pos) (tM X.K (rAndV ra rb)) := imE (pe_and ha hb) fun σ H Q h => by
  obtain ⟨env, W, rel, ok, P, hr, hq⟩ := h
  refine ⟨env, W, rel, ok, _, hr, fun d p v W' H' o g dm => ?_⟩
  cases d with
  | bool c =>
    cases dm
    refine ⟨c, rfl, ?_⟩
    cases c with
    | true => exact ⟨env, W', rel.gr g, o, P, p, fun b p v W2 H2 o2 g2 => hq b p v W2 H2 o2 (g.trans g2)⟩
    | false => exact hq _ p _ W' H' o g (.bl _)
  | _ => exact False.elim p
theorem mor (ha : PE X a (tM X.K ra)) (hb : PE X (.BoolOp .Or (b :: rest) pos) (tM X.K rb)) : PE X (.BoolOp .Or (a :: b :: rest) pos) (tM X.K (rOrV ra rb)) := imE (pe_or ha hb) fun σ H Q h => by
  obtain ⟨env, W, rel, ok, P, hr, hq⟩ := h
  refine ⟨env, W, rel, ok, _, hr, fun d p v W' H' o g dm => ?_⟩
  cases d with
  | bool c =>
    cases dm
    refine ⟨c, rfl, ?_⟩
    cases c with
    | false => exact ⟨env, W', rel.gr g, o, P, p, fun b p v W2 H2 o2 g2 => hq b p v W2 H2 o2 (g.trans g2)⟩
    | true => exact hq _ p _ W' H' o g (.bl _)
  | _ => exact False.elim p
theorem mnot (ha : PE X a (tM X.K ra)) : PE X (.UnaryOp .Not a pos) (tM X.K (rNotV ra)) := imE (pe_not ha) fun σ H Q h => by
  obtain ⟨env, W, rel, ok, P, hr, hq⟩ := h
  refine ⟨env, W, rel, ok, _, hr, fun d p v W' H' o g dm => ?_⟩
  cases d with
  | bool c =>
    cases dm
    exact ⟨c, rfl, hq _ p _ W' H' o g (.bl _)⟩
  | _ => exact False.elim p
theorem mif (hc : PT X c (tMT X.K t)) (ha : PE X a (tM X.K ra)) (hb : PE X b (tM X.K rb)) : PE X (.IfExp c a b pos) (tM X.K (rIf t ra rb)) := imE (pe_ifExp hc ha hb) fun σ H Q h => by
  obtain ⟨env, W, rel, ok, P, hr, hq⟩ := h
  refine ⟨env, W, rel, ok, _, hr, fun b p W' H' o g => ?_⟩
  cases b with
  | true => exact ⟨env, W', rel.gr g, o, P, p, fun b p v W2 H2 o2 g2 => hq b p v W2 H2 o2 (g.trans g2)⟩
  | false => exact ⟨env, W', rel.gr g, o, P, p, fun b p v W2 H2 o2 g2 => hq b p v W2 H2 o2 (g.trans g2)⟩
end

/-! ### argument lists, displays -/
def rTupM (rr : RA) : RE := fun env P => rr env fun xs => xs.length ≤ sizeLine ∧ P (.tuple xs)
def rLstM (rr : RA) : RE := fun env P => rr env fun xs => xs.length ≤ sizeLine ∧ P (.list xs)
inductive WeakAll (K : PySem.W.Frag) (W : Wd) (H : Hp) : List V → List PyData → Prop
  | nil : WeakAll K W H [] []
  | cons {v : V} {vs : List V} {d : PyData} {ds : List PyData} : Weak K W H v d → WeakAll K W H vs ds → WeakAll K W H (v :: vs) (d :: ds)
theorem WeakAll.gr {K : PySem.W.Frag} {W W' : Wd} {H H' : Hp} (g : Gr W W' H H') : ∀ {vs : List V} {ds : List PyData}, WeakAll K W H vs ds → WeakAll K W' H' vs ds
  | _, _, .nil => .nil
  | _, _, .cons h t => .cons (h.gr g) (WeakAll.gr g t)
def tMAw (K : PySem.W.Frag) (r : RA) : TA := fun σ H Q => ∃ env W, Rel K W H env σ ∧ WOk W H ∧ ∃ P : List PyData → Prop, r env P ∧ ∀ ds, P ds → ∀ vs W' H', WOk W' H' → Gr W W' H H' → WeakAll K W' H' vs ds → Q vs H'
section
variable {X : Cx} {e : Expr} {es : List Expr} {r : RE} {rr : RA} {pos : Pos}
theorem ma_nil : PA X [] (tMA X.K aNil) := imA pa_nil fun σ H Q ⟨env, W, rel, ok, P, hr, hq⟩ => hq [] hr [] W H ok (Gr.refl W H) .nil
theorem maw_nil : PA X [] (tMAw X.K aNil) := imA pa_nil fun σ H Q ⟨env, W, rel, ok, P, hr, hq⟩ => hq [] hr [] W H ok (Gr.refl W H) .nil
theorem ma_cons (h : PE X e (tM X.K r)) (hr : PA X es (tMA X.K rr)) (hs : starEach (e :: es) X.env = (false, eval e X.env) :: starEach es X.env := by rfl) : PA X (e :: es) (tMA X.K (aCons r rr)) :=
  imA (pa_cons h hr hs) fun σ H Q ⟨env, W, rel, ok, P, hr, hq⟩ => ⟨env, W, rel, ok, _, hr, fun x hx v W1 H1 o1 g1 dm => ⟨env, W1, rel.gr g1, o1, _, hx, fun xs hxs vs W2 H2 o2 g2 dms => hq _ hxs _ W2 H2 o2 (g1.trans g2) (.cons (g2.dm dm) dms)⟩⟩
theorem maw_cons (h : PE X e (tMw X.K r)) (hr : PA X es (tMAw X.K rr)) (hs : starEach (e :: es) X.env = (false, eval e X.env) :: starEach es X.env := by rfl) : PA X (e :: es) (tMAw X.K (aCons r rr)) :=
  imA (pa_cons h hr hs) fun σ H Q ⟨env, W, rel, ok, P, hr, hq⟩ => ⟨env, W, rel, ok, _, hr, fun x hx v W1 H1 o1 g1 dm => ⟨env, W1, rel.gr g1, o1, _, hx, fun xs hxs vs W2 H2 o2 g2 dms => hq _ hxs _ W2 H2 o2 (g1.trans g2) (.cons (dm.gr g2) dms)⟩⟩
theorem mtup {x1} (h : PA X es (tMA X.K rr)) : PE X (.Tuple es x1 pos) (tM X.K (rTupM rr)) := imE (pe_tup h) fun σ H Q ⟨env, W, rel, ok, P, hr, hq⟩ =>
  ⟨env, W, rel, ok, _, hr, fun ds p vs W1 H1 o1 g1 dms => ⟨by rw [dms.length]; exact p.1, fun a ha => by
    obtain ⟨o2, g2⟩ := lay (o := .tup vs) o1 ha
    exact hq _ p.2 _ _ _ o2 (g1.trans g2) (.tup (SqT.of upd_same) (g2.dms dms))⟩⟩
theorem mlst (h : PA X es (tMA X.K rr)) : PE X (.List es pos) (tMf X.K (rLstM rr)) := imE (pe_lst h) fun σ H Q ⟨env, W, rel, ok, P, hr, hq⟩ =>
  ⟨env, W, rel, ok, _, hr, fun ds p vs W1 H1 o1 g1 dms => ⟨by rw [dms.length]; exact p.1, fun a ha => by
    obtain ⟨o2, g2, f2, n2⟩ := layO (o := .lst vs) o1 ha
    refine hq _ p.2 _ _ _ o2 (g1.trans g2) ⟨a, rfl, ?_, a, vs, rfl, f2, n2, upd_same, g2.dms dms⟩
    cases e : H a with
    | none => rfl
    | some o =>
      obtain ⟨o', e'⟩ := g1.hs a o e
      rw [ha] at e'; cases e'⟩⟩
end

/-! ### items, slices -/
def kIx : K2 := fun x y P => match x, y with
  | .list ds, .int i => ∃ d, atI ds i = some d ∧ P d
  | .tuple ds, .int i => ∃ d, atI ds i = some d ∧ P d
  | .str z, .int i => z.length ≤ sizeLine ∧ ∃ c, atI z.cps.toList i = some c ∧ P (.str ⟨#[c]⟩)
  | _, _ => False
theorem atI_all {K : PySem.W.Frag} {W : Wd} {vs : List V} {ds : List PyData} {i : Int} {d : PyData} (h : DmAll K W vs ds) (e : atI ds i = some d) : ∃ v, atI vs i = some v ∧ Dm K W v d := by
  unfold atI at e ⊢
  rw [h.length]
  cases q : ixN ds.length i with
  | none => rw [q] at e; cases e
  | some j =>
    rw [q] at e
    exact h.get (by simpa using e)
section
variable {X : Cx} {a b e : Expr} {ra rb re : RE} {pos p2 : Pos}
theorem mix (ha : PE X a (tMw X.K ra)) (hb : PE X b (tMw X.K rb)) (hs : PlainIx b := by exact fun _ _ => rfl) : PE X (.Subscript a b pos) (tM X.K (rOp kIx ra rb)) := imE (pe_ix ix_seq ha hb hs) fun σ H Q h => by
  obtain ⟨env, W, rel, ok, P, hr, hq⟩ := bin_w h
  refine ⟨env, W, rel, ok, P, hr, fun d p v W' H' o g wx => ?_⟩
  obtain ⟨env2, W2, rel2, ok2, P2, hr2, hq2⟩ := hq d p v W' H' o g wx
  refine ⟨env2, W2, rel2, ok2, P2, hr2, fun d2 p2 v2 W3 H3 o3 g3 wy => ?_⟩
  obtain ⟨W1, d1, e1, P1, ok1, w1, w2, k1, q1⟩ := hq2 d2 p2 v2 W3 H3 o3 g3 wy
  cases e1 with
  | int i =>
    have := w2.int; subst this
    cases d1 with
    | list ds =>
      obtain ⟨a, xs, rfl, h1, dms⟩ := w1.lst ok1
      obtain ⟨z, ez, pz⟩ := k1
      obtain ⟨y, ey, dm⟩ := atI_all dms ez
      exact .inl ⟨a, xs, i, y, rfl, rfl, SqL.of h1, ey, q1 _ pz _ W1 H3 ok1 (Gr.refl _ _) dm⟩
    | tuple ds =>
      obtain ⟨a, xs, rfl, h1, dms, _⟩ := w1.tup ok1
      obtain ⟨z, ez, pz⟩ := k1
      obtain ⟨y, ey, dm⟩ := atI_all dms ez
      exact .inr (.inl ⟨a, xs, i, y, rfl, rfl, h1, ey, q1 _ pz _ W1 H3 ok1 (Gr.refl _ _) dm⟩)
    | str z =>
      have := w1.str; subst this
      obtain ⟨hz, c, ec, pc⟩ := k1
      exact .inr (.inr ⟨z, i, c, rfl, rfl, hz, ec, q1 _ pc _ W1 H3 ok1 (Gr.refl _ _) (.str _)⟩)
    | _ => exact False.elim k1
  | _ => cases d1 <;> exact False.elim k1
abbrev RO := En → (Option Int → Prop) → Prop
def oNone : RO := fun _ P => P none
def oSome (r : RE) : RO := fun env P => r env fun d => match d with
  | .int i => P (some i)
  | _ => False
def tMO (K : PySem.W.Frag) (r : RO) : TO := fun σ H Q => ∃ env W, Rel K W H env σ ∧ WOk W H ∧ ∃ P : Option Int → Prop, r env P ∧ ∀ o, P o → ∀ W' H', WOk W' H' → Gr W W' H H' → Q o H'
theorem imO {e : Option Expr} {t t' : TO} (h : PO X e t) (f : ∀ σ H Q, t' σ H Q → t σ H Q) : PO X e t' := ⟨fun pins s σ H Q I q => h.run pins s σ H Q I (f σ H Q q)⟩
theorem mo_none : PO X none (tMO X.K oNone) := imO po_none fun σ H Q ⟨env, W, rel, ok, P, hr, hq⟩ => hq none hr W H ok (Gr.refl W H)
theorem mo_some (h : PE X e (tMw X.K re)) : PO X (some e) (tMO X.K (oSome re)) := imO (po_some h) fun σ H Q ⟨env, W, rel, ok, P, hr, hq⟩ => ⟨env, W, rel, ok, _, hr, fun d p v W' H' o g wx => by
  cases d with
  | int i =>
    have := wx.int; subst this
    exact ⟨i, rfl, hq _ p W' H' o g⟩
  | _ => exact p.elim⟩
def cutD (xs : List PyData) (lo hi : Option Int) : List PyData := (xs.drop (HT.sIx xs.length 0 lo)).take (HT.sIx xs.length xs.length hi - HT.sIx xs.length 0 lo)
def rSl (re : RE) (lo hi : RO) : RE := fun env P => re env fun x => lo env fun l => hi env fun h => match x with
  | .list ds => P (.list (cutD ds l h))
  | .tuple ds => P (.tuple (cutD ds l h))
  | _ => False
theorem cut_all {K : PySem.W.Frag} {W : Wd} {vs : List V} {ds : List PyData} {l h : Option Int} (x : DmAll K W vs ds) : DmAll K W (cutV vs l h) (cutD ds l h) := by
  unfold cutV cutD
  rw [x.length]
  exact (x.drop _).take _
theorem sl_any : SlR X (fun x lo hi H Q => rSlL X.K x lo hi H Q ∨ rSlA X.K x lo hi H Q) := sl_list.or sl_tupA
theorem msl {lo hi : Option Expr} {rl rh : RO} (he : PE X e (tMw X.K re)) (hl : PO X lo (tMO X.K rl)) (hh : PO X hi (tMO X.K rh)) : PE X (.Subscript e (.Slice lo hi none p2) pos) (tM X.K (rSl re rl rh)) :=
  imE (pe_slice sl_any he hl hh) fun σ H Q ⟨env, W, rel, ok, P, hr, hq⟩ => ⟨env, W, rel, ok, _, hr, fun x px v W1 H1 o1 g1 wx => ⟨env, W1, rel.gr g1, o1, _, px, fun l pl W2 H2 o2 g2 => ⟨env, W2, (rel.gr g1).gr g2, o2, _, pl, fun h ph W3 H3 o3 g3 => by
    have wx := (wx.gr g2).gr g3
    have g := (g1.trans g2).trans g3
    cases x with
    | list ds =>
      obtain ⟨a, xs, rfl, h1, dms⟩ := wx.lst o3
      refine .inl ⟨a, xs, rfl, SqL.of h1, fun p hp => ?_⟩
      obtain ⟨o4, g4⟩ := lay (o := .lst (cutV xs l h)) o3 hp
      exact hq _ ph _ _ _ o4 (g.trans g4) (.lst upd_same (g4.dms (cut_all dms)))
    | tuple ds =>
      obtain ⟨a, xs, rfl, h1, dms, f1⟩ := wx.tup o3
      refine .inr ⟨a, xs, rfl, h1, fun z => ?_, fun _ p hp => ?_⟩
      · have e : cutD ds l h = ds := by
          unfold cutD
          rw [← dms.length, z.1, z.2]
          simp [dms.length]
        have ph : P (.tuple (cutD ds l h)) := ph
        rw [e] at ph
        exact hq _ ph _ _ _ o3 g (.tup f1 dms)
      · obtain ⟨o4, g4⟩ := lay (o := .tup (cutV xs l h)) o3 hp
        exact hq _ ph _ _ _ o4 (g.trans g4) (.tup (SqT.of upd_same) (g4.dms (cut_all dms)))
    | _ => exact False.elim ph⟩⟩⟩
/-- a list's slice that is to stay open -/
def rSlF (re : RE) (lo hi : RO) : RE := fun env P => re env fun x => lo env fun l => hi env fun h => match x with
  | .list ds => P (.list (cutD ds l h))
  | _ => False
def kRev : K1 := fun x P => match x with
  | .list ds => P (.list ds.reverse)
  | _ => False
theorem mrev {k : Nat} {p1 p2 p3 : Pos} (he : PE X e (tMw X.K re)) : PE X (.Subscript e (.Slice none none (some (.UnaryOp .USub (.Constant (.int 1) k p1) p2)) p3) pos) (tM X.K (rUn kRev re)) :=
  imE (pe_revL he) fun σ H Q ⟨env, W, rel, ok, P, hr, hq⟩ => ⟨env, W, rel, ok, _, hr, fun x px v W1 H1 o1 g1 wx => by
    cases x with
    | list ds =>
      obtain ⟨a, xs, rfl, h1, dms⟩ := wx.lst o1
      refine ⟨a, xs, rfl, SqL.of h1, fun p hp => ?_⟩
      obtain ⟨o4, g4⟩ := lay (o := .lst xs.reverse) o1 hp
      exact hq _ px _ _ _ o4 (g1.trans g4) (.lst upd_same (g4.dms dms.reverse))
    | _ => exact False.elim px⟩
end

/-! ### built-ins -/
abbrev KC := List PyData → RP → Prop
def KcR (K : PySem.W.Frag) (k : KC) : List V → Hp → VK → Prop := fun xs H Q => ∃ W ds P, WOk W H ∧ WeakAll K W H xs ds ∧ k ds P ∧ ∀ r, P r → ∀ v W' H', WOk W' H' → Gr W W' H H' → Dm K W' v r → Q v H'
def KcF (K : PySem.W.Frag) (k : KC) : List V → Hp → VK → Prop := fun xs H Q => ∃ W ds P, WOk W H ∧ WeakAll K W H xs ds ∧ k ds P ∧ ∀ r, P r → ∀ v W' H', WOk W' H' → Gr W W' H H' → Fresh K H W' H' v r → Q v H'
def CallM (X : Cx) (f : Value) (k : KC) : Prop := CallR X f (KcR X.K k)
def CallF (X : Cx) (f : Value) (k : KC) : Prop := CallR X f (KcF X.K k)
section
variable {K : PySem.W.Frag} {k : KC} {ra : RA} {σ : L2.St} {H : Hp} {Q : VK}
theorem cb_w (h : tM K (rFn k ra) σ H Q) : tCB (KcR K k) (tMAw K ra) σ H Q := by
  obtain ⟨env, W, rel, ok, P, hr, hq⟩ := h
  exact ⟨env, W, rel, ok, _, hr, fun ds p vs W1 H1 o1 g1 wx => ⟨W1, ds, P, o1, wx, p, fun r pr v W2 H2 o2 g2 dm => hq r pr v W2 H2 o2 (g1.trans g2) dm⟩⟩
theorem cb_f (h : tMf K (rFn k ra) σ H Q) : tCB (KcF K k) (tMAw K ra) σ H Q := by
  obtain ⟨env, W, rel, ok, P, hr, hq⟩ := h
  refine ⟨env, W, rel, ok, _, hr, fun ds p vs W1 H1 o1 g1 wx => ⟨W1, ds, P, o1, wx, p, fun r pr v W2 H2 o2 g2 ⟨a, ea, na, dm⟩ => hq r pr v W2 H2 o2 (g1.trans g2) ⟨a, ea, ?_, dm⟩⟩⟩
  cases e : H a with
  | none => rfl
  | some o =>
    obtain ⟨o', e'⟩ := g1.hs a o e
    rw [na] at e'; cases e'
end
section
variable {X : Cx} {x : Str} {p pos : Pos} {e : Expr} {es : List Expr} {ra : RA} {id T : String} {k : KC}
theorem mcB (hc : CallM X (.builtin id) k) (hm : X.mg x = none) (ha : PA X (e :: es) (tMAw X.K ra)) (hg : Gl X x := by rfl) (hv : bootBuiltins x = some (.builtin id) := by decide +kernel) (hn : x ≠ "__name__" := by decide) (hdb : (x == ("__debug__" : Str)) = false := by decide)
    (he : starEach (e :: es) X.env = (false, eval e X.env) :: starEach es X.env := by rfl) (hpl : (backTo pos (starEach es X.env)).any (·.1) = false := by rfl) : PE X (.Call (.Name x p) (e :: es) [] pos) (tM X.K (rFn k ra)) :=
  imE (pe_callB hc hg hm hv ha hn hdb he hpl) fun _ _ _ h => cb_w h
theorem mcBF (hc : CallF X (.builtin id) k) (hm : X.mg x = none) (ha : PA X (e :: es) (tMAw X.K ra)) (hg : Gl X x := by rfl) (hv : bootBuiltins x = some (.builtin id) := by decide +kernel) (hn : x ≠ "__name__" := by decide) (hdb : (x == ("__debug__" : Str)) = false := by decide)
    (he : starEach (e :: es) X.env = (false, eval e X.env) :: starEach es X.env := by rfl) (hpl : (backTo pos (starEach es X.env)).any (·.1) = false := by rfl) : PE X (.Call (.Name x p) (e :: es) [] pos) (tMf X.K (rFn k ra)) :=
  imE (pe_callB hc hg hm hv ha hn hdb he hpl) fun _ _ _ h => cb_f h
theorem mcT (hc : CallM X (.type T) k) (hm : X.mg x = none) (ha : PA X (e :: es) (tMAw X.K ra)) (hg : Gl X x := by rfl) (hv : bootBuiltins x = some (.type T) := by decide +kernel) (hn : x ≠ "__name__" := by decide) (hdb : (x == ("__debug__" : Str)) = false := by decide)
    (he : starEach (e :: es) X.env = (false, eval e X.env) :: starEach es X.env := by rfl) (hpl : (backTo pos (starEach es X.env)).any (·.1) = false := by rfl) : PE X (.Call (.Name x p) (e :: es) [] pos) (tM X.K (rFn k ra)) :=
  imE (pe_callTy hc hg hm hv ha hn hdb he hpl) fun _ _ _ h => cb_w h
theorem mcTF (hc : CallF X (.type T) k) (hm : X.mg x = none) (ha : PA X (e :: es) (tMAw X.K ra)) (hg : Gl X x := by rfl) (hv : bootBuiltins x = some (.type T) := by decide +kernel) (hn : x ≠ "__name__" := by decide) (hdb : (x == ("__debug__" : Str)) = false := by decide)
    (he : starEach (e :: es) X.env = (false, eval e X.env) :: starEach es X.env := by rfl) (hpl : (backTo pos (starEach es X.env)).any (·.1) = false := by rfl) : PE X (.Call (.Name x p) (e :: es) [] pos) (tMf X.K (rFn k ra)) :=
  imE (pe_callTy hc hg hm hv ha hn hdb he hpl) fun _ _ _ h => cb_f h
/-- a module's name for a built-in function (math.gcd) -/
theorem mcG (hc : CallM X (.builtin id) k) (hm : X.mg x = some (.builtin id)) (ha : PA X (e :: es) (tMAw X.K ra)) (hg : Gl X x := by rfl) (hdb : (x == ("__debug__" : Str)) = false := by decide)
    (he : starEach (e :: es) X.env = (false, eval e X.env) :: starEach es X.env := by rfl) (hpl : (backTo pos (starEach es X.env)).any (·.1) = false := by rfl) : PE X (.Call (.Name x p) (e :: es) [] pos) (tM X.K (rFn k ra)) :=
  imE (pe_callBfun hc hg hm ha hdb he hpl) fun _ _ _ h => cb_w h
end
def kLen : KC := fun xs P => match xs with
  | [.list ds] => P (.int ds.length)
  | [.tuple ds] => P (.int ds.length)
  | [.str z] => z.length ≤ sizeLine ∧ P (.int z.length)
  | _ => False
def kAbs : KC := fun xs P => match xs with
  | [.int i] => P (.int (if i < 0 then -i else i))
  | _ => False
def kMax2 : KC := fun xs P => match xs with
  | [.int i, .int j] => P (.int (if j > i then j else i))
  | _ => False
def kMin2 : KC := fun xs P => match xs with
  | [.int i, .int j] => P (.int (if j < i then j else i))
  | _ => False
def kInt : KC := fun xs P => match xs with
  | [.int i] => P (.int i)
  | [.bool b] => P (.int (if b then 1 else 0))
  | _ => False
def kGcd : KC := fun xs P => match xs with
  | [.int i, .int j] => P (.int ((Nat.gcd i.natAbs j.natAbs : Nat) : Int))
  | _ => False
/-- of a list of ints, told by its ints -/
def kInts (k : List Int → RP → Prop) : KC := fun xs P => match xs with
  | [.list ds] => ∃ ns : List Int, ds = ns.map PyData.int ∧ k ns P
  | _ => False
abbrev kSum : KC := kInts fun ns P => P (.int ns.sum)
abbrev kMaxL : KC := kInts fun ns P => 0 < ns.length ∧ ∀ m, m ∈ ns → (∀ y, y ∈ ns → y ≤ m) → P (.int m)
abbrev kMinL : KC := kInts fun ns P => 0 < ns.length ∧ ∀ m, m ∈ ns → (∀ y, y ∈ ns → m ≤ y) → P (.int m)
def kBools (k : List Bool → RP → Prop) : KC := fun xs P => match xs with
  | [.list ds] => ∃ ns : List Bool, ds = ns.map PyData.bool ∧ k ns P
  | _ => False
abbrev kAny : KC := kBools fun ns P => P (.bool (ns.any id))
abbrev kAll : KC := kBools fun ns P => P (.bool (ns.all id))
def kTuple : KC := fun xs P => match xs with
  | [.list ds] => P (.tuple ds)
  | [.tuple ds] => P (.tuple ds)
  | _ => False
def kList : KC := fun xs P => match xs with
  | [.list ds] => P (.list ds)
  | [.tuple ds] => P (.list ds)
  | _ => False
abbrev kSortedI : KC := kInts fun ns P => ∀ ns' : List Int, ns'.Perm ns → ns'.Pairwise (· ≤ ·) → P (.list (ns'.map PyData.int))
def ReprOk (d : PyData) : Prop := d.canLay0 = true ∧ d.showable = true ∧ d.shown.length ≤ sizeLine ∧ d.depth ≤ 60
def kRepr : KC := fun xs P => match xs with
  | [d] => ReprOk d ∧ P (.str d.shown)
  | _ => False
section
variable {X : Cx} {n : Nat} {K : PySem.W.Frag} {W : Wd} {H : Hp}
theorem WeakAll.one {vs : List V} {d : PyData} (h : WeakAll K W H vs [d]) : ∃ v, vs = [v] ∧ Weak K W H v d := by
  cases h with
  | cons a b => cases b; exact ⟨_, rfl, a⟩
theorem WeakAll.two {vs : List V} {d e : PyData} (h : WeakAll K W H vs [d, e]) : ∃ v u, vs = [v, u] ∧ Weak K W H v d ∧ Weak K W H u e := by
  cases h with
  | cons a b =>
    cases b with
    | cons c z =>
      cases z
      exact ⟨_, _, rfl, a, c⟩
theorem cm_len : CallM X (.builtin "len") kLen := by
  intro pins s σ H xs us Q I r ⟨W, ds, P, ok, wa, hk, hq⟩
  unfold kLen at hk
  split at hk
  · obtain ⟨v, rfl, w⟩ := wa.one
    obtain ⟨a, ys, rfl, h1, dms⟩ := w.lst ok
    exact call_len_seq pins s σ H _ us Q I r ⟨a, ys, rfl, .inl (SqL.of h1), by rw [dms.length]; exact hq _ hk _ W H ok (Gr.refl _ _) (.int _)⟩
  · obtain ⟨v, rfl, w⟩ := wa.one
    obtain ⟨a, ys, rfl, h1, dms, _⟩ := w.tup ok
    exact call_len_seq pins s σ H _ us Q I r ⟨a, ys, rfl, .inr h1, by rw [dms.length]; exact hq _ hk _ W H ok (Gr.refl _ _) (.int _)⟩
  · obtain ⟨v, rfl, w⟩ := wa.one
    have := w.str; subst this
    exact call_len_str pins s σ H _ us Q I r ⟨_, rfl, hk.1, hq _ hk.2 _ W H ok (Gr.refl _ _) (.int _)⟩
  · exact hk.elim
theorem cm_abs : CallM X (.builtin "abs") kAbs := by
  intro pins s σ H xs us Q I r ⟨W, ds, P, ok, wa, hk, hq⟩
  unfold kAbs at hk
  split at hk
  · obtain ⟨v, rfl, w⟩ := wa.one
    have := w.int; subst this
    exact call_abs pins s σ H _ us Q I r ⟨_, rfl, hq _ hk _ W H ok (Gr.refl _ _) (.int _)⟩
  · exact hk.elim
theorem cm_int : CallM X (.type "int") kInt := by
  intro pins s σ H xs us Q I r ⟨W, ds, P, ok, wa, hk, hq⟩
  unfold kInt at hk
  split at hk
  · obtain ⟨v, rfl, w⟩ := wa.one
    have := w.int; subst this
    exact call_int1 pins s σ H _ us Q I r (.inl ⟨_, rfl, hq _ hk _ W H ok (Gr.refl _ _) (.int _)⟩)
  · obtain ⟨v, rfl, w⟩ := wa.one
    have := w.bool; subst this
    exact call_int1 pins s σ H _ us Q I r (.inr ⟨_, rfl, hq _ hk _ W H ok (Gr.refl _ _) (.int _)⟩)
  · exact hk.elim
theorem cm_max2 (m : MX X n) : CallM X (.builtin "max") kMax2 := by
  intro pins s σ H xs us Q I r ⟨W, ds, P, ok, wa, hk, hq⟩
  unfold kMax2 at hk
  split at hk
  · obtain ⟨v, u, rfl, w, w2⟩ := wa.two
    have := w.int; subst this
    have := w2.int; subst this
    exact call_max2 m.calm pins s σ H _ us Q I r ⟨_, _, rfl, hq _ hk _ W H ok (Gr.refl _ _) (.int _)⟩
  · exact hk.elim
theorem cm_min2 (m : MX X n) : CallM X (.builtin "min") kMin2 := by
  intro pins s σ H xs us Q I r ⟨W, ds, P, ok, wa, hk, hq⟩
  unfold kMin2 at hk
  split at hk
  · obtain ⟨v, u, rfl, w, w2⟩ := wa.two
    have := w.int; subst this
    have := w2.int; subst this
    exact call_min2 m.calm pins s σ H _ us Q I r ⟨_, _, rfl, hq _ hk _ W H ok (Gr.refl _ _) (.int _)⟩
  · exact hk.elim
theorem cm_gcd : CallM X (.builtin "math.gcd") kGcd := by
  intro pins s σ H xs us Q I r ⟨W, ds, P, ok, wa, hk, hq⟩
  unfold kGcd at hk
  split at hk
  · obtain ⟨v, u, rfl, w, w2⟩ := wa.two
    have := w.int; subst this
    have := w2.int; subst this
    exact cr_gcd pins s σ H _ us Q I r ⟨_, _, rfl, hq _ hk _ W H ok (Gr.refl _ _) (.int _)⟩
  · exact hk.elim
theorem ints_of {k : List Int → RP → Prop} {xs : List V} {ds : List PyData} {P : RP} (ok : WOk W H) (wa : WeakAll K W H xs ds) (hk : kInts k ds P) : ∃ a ns, xs = [.ref a] ∧ H a = some (.lst (ns.map V.int)) ∧ k ns P := by
  unfold kInts at hk
  split at hk
  · obtain ⟨v, rfl, w⟩ := wa.one
    obtain ⟨ns, rfl, hk⟩ := hk
    obtain ⟨a, ys, rfl, h1, dms⟩ := w.lst ok
    have := dms.ints; subst this
    exact ⟨a, ns, rfl, h1, hk⟩
  · exact hk.elim
theorem cm_sum (m : MX X n) : CallM X (.builtin "sum") kSum := by
  intro pins s σ H xs us Q I r ⟨W, ds, P, ok, wa, hk, hq⟩
  obtain ⟨a, ns, rfl, h1, hk⟩ := ints_of ok wa hk
  exact cr_sum m.calm pins s σ H _ us Q I r ⟨a, ns, rfl, SqL.of h1, hq _ hk _ W H ok (Gr.refl _ _) (.int _)⟩
theorem cm_maxL (m : MX X n) : CallM X (.builtin "max") kMaxL := by
  intro pins s σ H xs us Q I r ⟨W, ds, P, ok, wa, hk, hq⟩
  obtain ⟨a, ns, rfl, h1, hk⟩ := ints_of ok wa hk
  exact cr_max m.calm pins s σ H _ us Q I r ⟨a, ns, rfl, SqL.of h1, hk.1, fun x h2 h3 => hq _ (hk.2 x h2 h3) _ W H ok (Gr.refl _ _) (.int _)⟩
theorem cm_minL (m : MX X n) : CallM X (.builtin "min") kMinL := by
  intro pins s σ H xs us Q I r ⟨W, ds, P, ok, wa, hk, hq⟩
  obtain ⟨a, ns, rfl, h1, hk⟩ := ints_of ok wa hk
  exact cr_min m.calm pins s σ H _ us Q I r ⟨a, ns, rfl, SqL.of h1, hk.1, fun x h2 h3 => hq _ (hk.2 x h2 h3) _ W H ok (Gr.refl _ _) (.int _)⟩
theorem bools_of {k : List Bool → RP → Prop} {xs : List V} {ds : List PyData} {P : RP} (ok : WOk W H) (wa : WeakAll K W H xs ds) (hk : kBools k ds P) : ∃ a ns, xs = [.ref a] ∧ H a = some (.lst (ns.map V.bl)) ∧ k ns P := by
  unfold kBools at hk
  split at hk
  · obtain ⟨v, rfl, w⟩ := wa.one
    obtain ⟨ns, rfl, hk⟩ := hk
    obtain ⟨a, ys, rfl, h1, dms⟩ := w.lst ok
    have := dms.bls; subst this
    exact ⟨a, ns, rfl, h1, hk⟩
  · exact hk.elim
theorem cm_any (m : MX X n) : CallM X (.builtin "any") kAny := by
  intro pins s σ H xs us Q I r ⟨W, ds, P, ok, wa, hk, hq⟩
  obtain ⟨a, ns, rfl, h1, hk⟩ := bools_of ok wa hk
  exact cr_any m.calm pins s σ H _ us Q I r ⟨a, ns, rfl, SqL.of h1, hq _ hk _ W H ok (Gr.refl _ _) (.bl _)⟩
theorem cm_all (m : MX X n) : CallM X (.builtin "all") kAll := by
  intro pins s σ H xs us Q I r ⟨W, ds, P, ok, wa, hk, hq⟩
  obtain ⟨a, ns, rfl, h1, hk⟩ := bools_of ok wa hk
  exact cr_all m.calm pins s σ H _ us Q I r ⟨a, ns, rfl, SqL.of h1, hq _ hk _ W H ok (Gr.refl _ _) (.bl _)⟩
theorem cm_tuple : CallM X (.type "tuple") kTuple := by
  intro pins s σ H xs us Q I r ⟨W, ds, P, ok, wa, hk, hq⟩
  unfold kTuple at hk
  split at hk
  · obtain ⟨v, rfl, w⟩ := wa.one
    obtain ⟨a, ys, rfl, h1, dms⟩ := w.lst ok
    refine call_tuple_of pins s σ H _ us Q I r ⟨a, ys, rfl, .inl ⟨SqL.of h1, fun l hl => ?_⟩⟩
    obtain ⟨o4, g4⟩ := lay (o := .tup ys) ok hl
    exact hq _ hk _ _ _ o4 g4 (.tup (SqT.of upd_same) (g4.dms dms))
  · obtain ⟨v, rfl, w⟩ := wa.one
    obtain ⟨a, ys, rfl, h1, dms, f1⟩ := w.tup ok
    exact call_tuple_of pins s σ H _ us Q I r ⟨a, ys, rfl, .inr ⟨h1, hq _ hk _ W H ok (Gr.refl _ _) (.tup f1 dms)⟩⟩
  · exact hk.elim
theorem freshO {p : Addr} {vs : List V} {ds : List PyData} (ok : WOk W H) (hp : H p = none) (dms : DmAll K W vs ds) : WOk W (upd H p (.lst vs)) ∧ Gr W W H (upd H p (.lst vs)) ∧ Fresh K H W (upd H p (.lst vs)) (.ref p) (.list ds) := by
  obtain ⟨o2, g2, f2, n2⟩ := layO (o := .lst vs) ok hp
  exact ⟨o2, g2, p, rfl, hp, p, vs, rfl, f2, n2, upd_same, g2.dms dms⟩
theorem cf_list : CallF X (.type "list") kList := by
  intro pins s σ H xs us Q I r ⟨W, ds, P, ok, wa, hk, hq⟩
  unfold kList at hk
  split at hk
  · obtain ⟨v, rfl, w⟩ := wa.one
    obtain ⟨a, ys, rfl, h1, dms⟩ := w.lst ok
    refine call_list_of pins s σ H _ us Q I r ⟨a, ys, rfl, .inl (SqL.of h1), fun l hl => ?_⟩
    obtain ⟨o4, g4, fr⟩ := freshO ok hl dms
    exact hq _ hk _ _ _ o4 g4 fr
  · obtain ⟨v, rfl, w⟩ := wa.one
    obtain ⟨a, ys, rfl, h1, dms, f1⟩ := w.tup ok
    refine call_list_of pins s σ H _ us Q I r ⟨a, ys, rfl, .inr h1, fun l hl => ?_⟩
    obtain ⟨o4, g4, fr⟩ := freshO ok hl dms
    exact hq _ hk _ _ _ o4 g4 fr
  · exact hk.elim
theorem cf_sortedI : CallF X (.builtin "sorted") kSortedI := by
  intro pins s σ H xs us Q I r ⟨W, ds, P, ok, wa, hk, hq⟩
  obtain ⟨a, ns, rfl, h1, hk⟩ := ints_of ok wa hk
  refine cr_sortedI pins s σ H _ us Q I r ⟨a, ns, rfl, SqL.of h1, fun ns' p h2 h3 hp => ?_⟩
  obtain ⟨o4, g4, fr⟩ := freshO (K := X.K) ok hp (DmAll.of_ints (ns := ns'))
  exact hq _ (hk ns' h2 h3) _ _ _ o4 g4 fr
theorem cm_repr (m : MX X n) : CallM X (.builtin "repr") kRepr := by
  intro pins s σ H xs us Q I r ⟨W, ds, P, ok, wa, hk, hq⟩
  unfold kRepr at hk
  split at hk
  · rename_i d
    obtain ⟨v, rfl, w⟩ := wa.one
    obtain ⟨⟨c1, c2, c3, c4⟩, hp⟩ := hk
    obtain ⟨u, rfl, ru⟩ := vals1 r
    have dp := w.dp ok c1
    have fin : ∀ (s' : Shared) (tk : Tok), Inv X pins σ H s' → EP X pins σ Q (.str d.shown tk) s' := fun s' tk I' => ⟨.str d.shown, H, I', ⟨tk, rfl⟩, hq _ hp _ W H ok (Gr.refl _ _) (.str _)⟩
    cases dp with
    | non =>
      cases ru
      exact PySem.P.repr_of_none (by have := fin { s with toks := s.toks + 1 } s.toks (I.tok _); rwa [PyData.shown_none] at this)
    | bl b =>
      cases ru
      exact PySem.P.repr_of_bool (by have := fin { s with toks := s.toks + 1 } s.toks (I.tok _); rwa [PyData.shown_bool] at this)
    | int i =>
      obtain ⟨t, rfl⟩ := ru
      exact PySem.P.repr_of_int (by simpa [PyData.showable] using c2) (by have := fin { s with toks := s.toks + 1 } s.toks (I.tok _); rwa [PyData.shown_int] at this)
    | str z =>
      obtain ⟨t, rfl⟩ := ru
      rw [PyData.shown_str] at c3
      exact PySem.P.repr_of_str (by have := fin { s with toks := s.toks + 1 } s.toks (I.tok _); rwa [PyData.shown_str] at this) c3
    | lst h1 h2 =>
      cases ru
      obtain ⟨as, rd⟩ := Dp.reads I _ _ _ (Dp.lst h1 h2) rfl
      have := m.room.un
      exact repr_of_reads' rd c2 (PyData.noDict_hsm (PyData.hasDict_of_canLay _ c1)) m.gu (by omega) (fun _ _ e => e) (fun h' u tk hk => fin _ u (I.kept hk)) c3
    | tup h1 h2 =>
      cases ru
      obtain ⟨as, rd⟩ := Dp.reads I _ _ _ (Dp.tup h1 h2) rfl
      have := m.room.un
      exact repr_of_reads' rd c2 (PyData.noDict_hsm (PyData.hasDict_of_canLay _ c1)) m.gu (by omega) (fun _ _ e => e) (fun h' u tk hk => fin _ u (I.kept hk)) c3
  · exact hk.elim
end
end MM
set_option Elab.async false
set_option linter.all false
set_option maxRecDepth 100000
set_option maxHeartbeats 1000000
/-! M4: statements, loops, comprehensions -/
namespace MM
open PySem PySem.Spec L2
def NewO (H0 : Hp) (env : En) (σ : L2.St) : Prop := ∀ (i : Nat) (d : PyData) (a : Addr), env[i]? = some (.o d) → σ[i]? = some (some (.ref a)) → H0 a = none
/-- where a def's body began (W0, H0), and what has been frozen since (Z) -/
structure Bs where
  W0 : Wd
  H0 : Hp
  Z : Wd
structure GB (B : Bs) (W : Wd) (H : Hp) : Prop where
  g : Gr B.W0 W B.H0 H
  f : ∀ a o, B.Z.F a = some o → W.F a = some o
  s : ∀ a c, B.Z.S a = some c → W.S a = some c
theorem GB.trans {B : Bs} {W W' : Wd} {H H' : Hp} (b : GB B W H) (g : Gr W W' H H') : GB B W' H' := ⟨b.g.trans g, fun a o e => g.f a o (b.f a o e), fun a c e => g.s a c (b.s a c e)⟩
/-- the state in a def's body -/
def SR (K : PySem.W.Frag) (B : Bs) (env : En) (σ : L2.St) (H : Hp) : Prop := ∃ W, Rel K W H env σ ∧ WOk W H ∧ GB B W H ∧ NewO B.H0 env σ
structure EndsOk (K : PySem.W.Frag) (B : Bs) (M : ME) (D : Ends) : Prop where
  nx : ∀ e, M.nx e → ∀ σ' H', SR K B e σ' H' → D.nx σ' H'
  rt : ∀ d, M.rt d → ∀ v W' H', WOk W' H' → GB B W' H' → Dm K W' v d → D.rt v H'
  bk : ∀ e, M.bk e → ∀ σ' H', SR K B e σ' H' → D.bk σ' H'
  ct : ∀ e, M.ct e → ∀ σ' H', SR K B e σ' H' → D.ct σ' H'
def tMS (K : PySem.W.Frag) (B : Bs) (r : RS) : TS := fun D σ H => ∃ env, SR K B env σ H ∧ ∃ M : ME, r env M ∧ EndsOk K B M D
section
variable {K : PySem.W.Frag} {W W0 : Wd} {H H0 : Hp} {env : En} {σ : L2.St} {v : V} {d : PyData} {i : Nat}
theorem Rel.set (r : Rel K W H env σ) (i : Nat) (h : Dm K W v d) : Rel K W H (env.set i (.f d)) (σ.set i (some v)) := by
  have hl := r.len
  refine ⟨by rw [List.length_set, List.length_set]; exact hl, fun j e q => ?_, fun j e q => ?_, fun j k e e' u ne q q' p p' => ?_⟩
  · rw [List.getElem?_set] at q ⊢
    by_cases hj : i = j
    · subst hj
      rw [if_pos rfl] at q ⊢
      split at q
      · cases q
        rw [if_pos (by omega)]
        exact ⟨v, rfl, h⟩
      · cases q
    · rw [if_neg hj] at q ⊢
      exact r.fz j e q
  · rw [List.getElem?_set] at q ⊢
    by_cases hj : i = j
    · subst hj
      rw [if_pos rfl] at q
      split at q <;> cases q
    · rw [if_neg hj] at q ⊢
      exact r.op j e q
  · rw [List.getElem?_set] at q q' p p'
    by_cases hj : i = j
    · subst hj
      rw [if_pos rfl] at q
      split at q <;> cases q
    · by_cases hk : i = k
      · subst hk
        rw [if_pos rfl] at q'
        split at q' <;> cases q'
      · rw [if_neg hj] at q p
        rw [if_neg hk] at q' p'
        exact r.sep j k e e' u ne q q' p p'
theorem Rel.setO (r : Rel K W H env σ) (i : Nat) (h : Own K W H v d) (ap : ∀ (j : Nat) e, j ≠ i → env[j]? = some (Sl.o e) → σ[j]? ≠ some (some v)) : Rel K W H (env.set i (.o d)) (σ.set i (some v)) := by
  have hl := r.len
  refine ⟨by rw [List.length_set, List.length_set]; exact hl, fun j e q => ?_, fun j e q => ?_, fun j k e e' u ne q q' p p' => ?_⟩
  · rw [List.getElem?_set] at q ⊢
    by_cases hj : i = j
    · subst hj
      rw [if_pos rfl] at q
      split at q <;> cases q
    · rw [if_neg hj] at q ⊢
      exact r.fz j e q
  · rw [List.getElem?_set] at q ⊢
    by_cases hj : i = j
    · subst hj
      rw [if_pos rfl] at q ⊢
      split at q
      · cases q
        rw [if_pos (by omega)]
        exact ⟨v, rfl, h⟩
      · cases q
    · rw [if_neg hj] at q ⊢
      exact r.op j e q
  · rw [List.getElem?_set] at q q' p p'
    by_cases hj : i = j
    · subst hj
      rw [if_pos rfl] at p
      split at p
      · cases p
        rw [if_neg ne] at q' p'
        exact ap k e' (Ne.symm ne) q' p'
      · cases p
    · by_cases hk : i = k
      · subst hk
        rw [if_pos rfl] at p'
        rw [if_neg hj] at q p
        split at p'
        · cases p'
          exact ap j e (Ne.symm hj) q p
        · cases p'
      · rw [if_neg hj] at q p
        rw [if_neg hk] at q' p'
        exact r.sep j k e e' u ne q q' p p'
end

section
variable {K : PySem.W.Frag} {B : Bs} {H0 : Hp}
theorem NewO.set {env : En} {σ : L2.St} {v : V} {d : PyData} (h : NewO H0 env σ) (i : Nat) : NewO H0 (env.set i (.f d)) (σ.set i (some v)) := fun j e a q p => by
  rw [List.getElem?_set] at q p
  by_cases hj : i = j
  · subst hj
    rw [if_pos rfl] at q
    split at q <;> cases q
  · rw [if_neg hj] at q p
    exact h j e a q p
theorem NewO.setO {env : En} {σ : L2.St} {v : V} {d : PyData} (h : NewO H0 env σ) (i : Nat) (hv : ∀ a, v = .ref a → H0 a = none) : NewO H0 (env.set i (.o d)) (σ.set i (some v)) := fun j e a q p => by
  rw [List.getElem?_set] at q p
  by_cases hj : i = j
  · subst hj
    rw [if_pos rfl] at p
    split at p
    · cases p
      exact hv a rfl
    · cases p
  · rw [if_neg hj] at q p
    exact h j e a q p
/-- an expression's end, as a state -/
theorem Gr.none {W W' : Wd} {H H' : Hp} (g : Gr W W' H H') {a : Addr} (h : H' a = Option.none) : H a = Option.none := by
  cases e : H a with
  | none => rfl
  | some o =>
    obtain ⟨o', e'⟩ := g.hs a o e
    rw [h] at e'; cases e'
variable {X : Cx} {e : Expr} {r : RE} {pos : Pos}
def rSet (i : Nat) (r : RE) : RS := fun env M => r env fun d => M.nx (env.set i (.f d))
def rSetO (i : Nat) (r : RE) : RS := fun env M => r env fun d => M.nx (env.set i (.o d))
def rRet (r : RE) : RS := fun env M => r env M.rt
def rRetN : RS := fun _ M => M.rt .none
def rPass : RS := fun env M => M.nx env
def rDrop (r : RE) : RS := fun env M => r env fun _ => M.nx env
def rSeq (a b : RS) : RS := fun env M => a env { M with nx := fun e => b e M }
def rIte (t : RT) (a b : RS) : RS := fun env M => t env fun c => if c = true then a env M else b env M
theorem set_of {i : Nat} {D : Ends} {σ : L2.St} {H : Hp} (h : tMS K B (rSet i r) D σ H) : tAsg (tM K r) (gName i) D σ H := by
  obtain ⟨env, ⟨W, rel, ok, g0, nw⟩, M, hr, en⟩ := h
  exact ⟨env, W, rel, ok, _, hr, fun d p v W' H' o g dm => en.nx _ p _ _ ⟨W', (rel.gr g).set i dm, o, g0.trans g, nw.set i⟩⟩
theorem setO_of {i : Nat} {D : Ends} {σ : L2.St} {H : Hp} (h : tMS K B (rSetO i r) D σ H) : tAsg (tMf K r) (gName i) D σ H := by
  obtain ⟨env, ⟨W, rel, ok, g0, nw⟩, M, hr, en⟩ := h
  refine ⟨env, W, rel, ok, _, hr, fun d p v W' H' o g fr => ?_⟩
  obtain ⟨a, rfl, na, ow⟩ := fr
  refine en.nx _ p _ _ ⟨W', (rel.gr g).setO i ow (fun j q hj hq hs => ?_), o, g0.trans g, nw.setO i fun b eb => ?_⟩
  · obtain ⟨u, eu, own⟩ := rel.op j q hq
    rw [hs] at eu; cases eu
    cases q with
    | list ds =>
      obtain ⟨b, xs, eb, _, _, hb, _⟩ := own
      cases eb
      rw [na] at hb; cases hb
    | _ => exact own.elim
  · cases eb
    exact g0.g.none na
theorem ms_set (m : X.N.Nodup) (i : Nat) {x : Str} {pos' : Pos} (he : PE X e (tM X.K r)) (hi : X.N[i]? = some x := by rfl) (hx : Loc X.env.scope x := by first | exact Or.inl rfl | exact Or.inr rfl) (hs : swapsWith e (some (.Name x pos')) pos.line X.env = pure false := by rfl)
    (hf : X.fn x = true ∨ X.env.scope.names.lookup x = some .local := by first | exact .inl rfl | exact .inr rfl) : PS X (.Assign [.Name x pos'] e pos) (tMS X.K B (rSet i r)) := imS (ps_set m hi hx he hs hf) fun _ _ _ h => set_of h
theorem ms_setO (m : X.N.Nodup) (i : Nat) {x : Str} {pos' : Pos} (he : PE X e (tMf X.K r)) (hi : X.N[i]? = some x := by rfl) (hx : Loc X.env.scope x := by first | exact Or.inl rfl | exact Or.inr rfl) (hs : swapsWith e (some (.Name x pos')) pos.line X.env = pure false := by rfl)
    (hf : X.fn x = true ∨ X.env.scope.names.lookup x = some .local := by first | exact .inl rfl | exact .inr rfl) : PS X (.Assign [.Name x pos'] e pos) (tMS X.K B (rSetO i r)) := imS (ps_set m hi hx he hs hf) fun _ _ _ h => setO_of h
theorem ms_ret (he : PE X e (tM X.K r)) : PS X (.Return (some e) pos) (tMS X.K B (rRet r)) := imS (ps_ret he) fun D σ H ⟨env, ⟨W, rel, ok, g0, nw⟩, M, hr, en⟩ =>
  ⟨env, W, rel, ok, _, hr, fun d p v W' H' o g dm => en.rt d p v W' H' o (g0.trans g) dm⟩
theorem ms_retN : PS X (.Return none pos) (tMS X.K B rRetN) := imS ps_retN fun D σ H ⟨env, ⟨W, rel, ok, g0, nw⟩, M, hr, en⟩ => en.rt _ hr _ W H ok g0 .non
theorem ms_pass : PS X (.Pass pos) (tMS X.K B rPass) := imS ps_pass fun D σ H ⟨env, s, M, hr, en⟩ => en.nx _ hr _ _ s
theorem ms_drop (he : PE X e (tM X.K r)) (hs : swapsWith e none pos.line X.env = pure false := by rfl) : PS X (.Expr e pos) (tMS X.K B (rDrop r)) := imS (ps_expr he hs) fun D σ H ⟨env, ⟨W, rel, ok, g0, nw⟩, M, hr, en⟩ =>
  ⟨env, W, rel, ok, _, hr, fun d p v W' H' o g dm => en.nx _ p _ _ ⟨W', rel.gr g, o, g0.trans g, nw⟩⟩
theorem mss_nil : PSs X [] (tMS X.K B rPass) := imSs pss_nil fun D σ H ⟨env, s, M, hr, en⟩ => en.nx _ hr _ _ s
variable {st : Stmt} {sts : List Stmt} {a b : RS}
theorem mss_one (h : PS X st (tMS X.K B a)) : PSs X [st] (tMS X.K B a) := pss_one h
theorem mss_cons (h : PS X st (tMS X.K B a)) (h2 : PSs X sts (tMS X.K B b)) : PSs X (st :: sts) (tMS X.K B (rSeq a b)) := imSs (pss_cons h h2) fun D σ H ⟨env, s, M, hr, en⟩ =>
  ⟨env, s, _, hr, fun e p σ' H' s' => ⟨e, s', M, p, en⟩, en.rt, en.bk, en.ct⟩
theorem ms_if {c : Expr} {bt bf : List Stmt} {t : RT} (hc : PT X c (tMT X.K t)) (ha : PSs X bt (tMS X.K B a)) (hb : PSs X bf (tMS X.K B b)) : PS X (.If c bt bf pos) (tMS X.K B (rIte t a b)) :=
  imS (ps_if hc ha hb) fun D σ H ⟨env, ⟨W, rel, ok, g0, nw⟩, M, hr, en⟩ => ⟨env, W, rel, ok, _, hr, fun c p W' H' o g => by
    cases c with
    | true => exact ⟨env, ⟨W', rel.gr g, o, g0.trans g, nw⟩, M, p, en⟩
    | false => exact ⟨env, ⟨W', rel.gr g, o, g0.trans g, nw⟩, M, p, en⟩⟩
/-- a step of the proof alone: an open list is frozen -/
def rFrz (i : Nat) (r : RS) : RS := fun env M => match env[i]? with
  | some (.o d) => r (env.set i (.f d)) M
  | _ => r env M
theorem SR.frz {env : En} {σ : L2.St} {H : Hp} {i : Nat} {d : PyData} (s : SR K B env σ H) (h : env[i]? = some (.o d)) : SR K B (env.set i (.f d)) σ H := by
  obtain ⟨W, rel, ok, g0, nw⟩ := s
  obtain ⟨v, ev, own⟩ := rel.op i d h
  have nv : ∀ a, v = .ref a → B.H0 a = none := fun a z => by subst z; exact nw i d a h ev
  cases d with
  | list ds =>
    have own' := own
    obtain ⟨a, xs, rfl, ha, ok', dm⟩ := own.freeze ok
    obtain ⟨a', xs', z, fa, ia, ha', dms⟩ := own'
    cases z
    have gr : ∀ b o, W.F b = some o → upd W.F a (.lst xs) b = some o := fun b o q => by
      rw [upd_ne (fun z => by rw [z, fa] at q; cases q)]; exact q
    refine ⟨⟨upd W.F a (.lst xs), W.S⟩, ⟨by rw [List.length_set]; exact rel.len, fun j e q => ?_, fun j e q => ?_, fun j k e e' u ne q q' p p' => ?_⟩, ok', ⟨⟨fun b o q => gr b o (g0.g.f b o q), g0.g.s, g0.g.h, g0.g.hs, fun b o q z => ?_, g0.g.ns⟩, fun b o q => gr b o (g0.f b o q), g0.s⟩, fun j e b q p => ?_⟩
    · rw [List.getElem?_set] at q
      by_cases hj : i = j
      · subst hj
        rw [if_pos rfl] at q
        split at q
        · cases q
          exact ⟨_, ev, dm⟩
        · cases q
      · rw [if_neg hj] at q
        obtain ⟨u, eu, du⟩ := rel.fz j e q
        exact ⟨u, eu, du.gr (W' := ⟨upd W.F a (.lst xs), W.S⟩) gr fun _ _ z => z⟩
    · rw [List.getElem?_set] at q
      by_cases hj : i = j
      · subst hj
        rw [if_pos rfl] at q
        split at q <;> cases q
      · rw [if_neg hj] at q
        obtain ⟨u, eu, ou⟩ := rel.op j e q
        refine ⟨u, eu, ?_⟩
        cases e with
        | list es =>
          obtain ⟨b, ys, rfl, fb, ib, hb, dys⟩ := ou
          refine ⟨b, ys, rfl, ?_, ib, hb, dys.gr (W' := ⟨upd W.F a (.lst xs), W.S⟩) gr fun _ _ z => z⟩
          show upd W.F a (.lst xs) b = none
          rw [upd_ne (fun z => by subst z; exact rel.sep i j _ _ _ hj h q ev eu)]
          exact fb
        | _ => exact ou.elim
    · rw [List.getElem?_set] at q q'
      by_cases hj : i = j
      · subst hj
        rw [if_pos rfl] at q
        split at q <;> cases q
      · by_cases hk : i = k
        · subst hk
          rw [if_pos rfl] at q'
          split at q' <;> cases q'
        · rw [if_neg hj] at q
          rw [if_neg hk] at q'
          exact rel.sep j k e e' u ne q q' p p'
    · show upd W.F a (.lst xs) b = none
      rw [upd_ne (fun z => by rw [z, nv a rfl] at q; cases q)]
      exact g0.g.nf b o q z
    · rw [List.getElem?_set] at q
      by_cases hj : i = j
      · subst hj
        rw [if_pos rfl] at q
        split at q <;> cases q
      · rw [if_neg hj] at q
        exact nw j e b q p
  | _ => exact own.elim
theorem mss_frz (i : Nat) (h : PSs X sts (tMS X.K B a)) : PSs X sts (tMS X.K B (rFrz i a)) := imSs h fun D σ H ⟨env, s, M, hr, en⟩ => by
  unfold rFrz at hr
  split at hr
  · rename_i d hd
    exact ⟨_, s.frz hd, M, hr, en⟩
  · exact ⟨env, s, M, hr, en⟩
/-! append, extend -/
def rApp (i : Nat) (r : RE) : RS := fun env M => match env[i]? with
  | some (.o (.list ds)) => r env fun d => ds.length < sizeLine ∧ M.nx (env.set i (.o (.list (ds ++ [d]))))
  | _ => False
def rExt (i : Nat) (r : RE) : RS := fun env M => match env[i]? with
  | some (.o (.list ds)) => r env fun d => match d with
    | .list es => ds.length + es.length ≤ sizeLine ∧ M.nx (env.set i (.o (.list (ds ++ es))))
    | _ => False
  | _ => False
theorem wr_core {env : En} {σ : L2.St} {H : Hp} {W : Wd} {i : Nat} {a : Addr} {xs ys : List V} {ds es : List PyData} (rel : Rel K W H env σ) (ok : WOk W H) (g0 : GB B W H) (nw : NewO B.H0 env σ) (h : env[i]? = some (.o (.list ds))) (hs : σ[i]? = some (some (.ref a)))
    (hF : W.F a = none) (hI : ¬ W.In a) (hH : H a = some (.lst xs)) (hd : DmAll K W ys es) : Rel K W (upd H a (.lst ys)) (env.set i (.o (.list es))) σ ∧ WOk W (upd H a (.lst ys)) ∧ GB B W (upd H a (.lst ys)) ∧ NewO B.H0 (env.set i (.o (.list es))) σ := by
  have na := nw i _ a h hs
  refine ⟨⟨by rw [List.length_set]; exact rel.len, fun j e q => ?_, fun j e q => ?_, fun j k e e' u ne q q' p p' => ?_⟩, wrO ok hH hF hI, ⟨⟨g0.g.f, g0.g.s, fun b o q z => ?_, fun b o q => ?_, g0.g.nf, g0.g.ns⟩, g0.f, g0.s⟩, fun j e b q p => ?_⟩
  · rw [List.getElem?_set] at q
    by_cases hj : i = j
    · subst hj
      rw [if_pos rfl] at q
      split at q <;> cases q
    · rw [if_neg hj] at q
      exact rel.fz j e q
  · rw [List.getElem?_set] at q
    by_cases hj : i = j
    · subst hj
      rw [if_pos rfl] at q
      split at q
      · cases q
        exact ⟨_, hs, a, ys, rfl, hF, hI, upd_same, hd⟩
      · cases q
    · rw [if_neg hj] at q
      obtain ⟨u, eu, ou⟩ := rel.op j e q
      refine ⟨u, eu, ?_⟩
      cases e with
      | list fs =>
        obtain ⟨b, zs, rfl, fb, ib, hb, dys⟩ := ou
        exact ⟨b, zs, rfl, fb, ib, by rw [upd_ne (fun z => by subst z; exact rel.sep i j _ _ _ hj h q hs eu)]; exact hb, dys⟩
      | _ => exact ou.elim
  · rw [List.getElem?_set] at q q'
    have q1 : ∃ e1, env[j]? = some (.o e1) := by
      by_cases hj : i = j
      · subst hj; exact ⟨_, h⟩
      · rw [if_neg hj] at q; exact ⟨_, q⟩
    have q2 : ∃ e1, env[k]? = some (.o e1) := by
      by_cases hj : i = k
      · subst hj; exact ⟨_, h⟩
      · rw [if_neg hj] at q'; exact ⟨_, q'⟩
    obtain ⟨e1, q1⟩ := q1
    obtain ⟨e2, q2⟩ := q2
    exact rel.sep j k e1 e2 u ne q1 q2 p p'
  · have q' := g0.g.h b o q z
    rw [upd_ne (fun y => by rw [y, na] at q; cases q)]
    exact q'
  · by_cases hb : b = a
    · exact ⟨_, by rw [hb]; exact upd_same⟩
    · obtain ⟨o', q'⟩ := g0.g.hs b o q
      exact ⟨o', by rw [upd_ne hb]; exact q'⟩
  · rw [List.getElem?_set] at q
    by_cases hj : i = j
    · subst hj
      exact nw i _ b h p
    · rw [if_neg hj] at q
      exact nw j e b q p
theorem SR.wr {env : En} {σ : L2.St} {H : Hp} {W : Wd} {i : Nat} {a : Addr} {xs ys : List V} {ds es : List PyData} (rel : Rel K W H env σ) (ok : WOk W H) (g0 : GB B W H) (nw : NewO B.H0 env σ) (h : env[i]? = some (.o (.list ds))) (hs : σ[i]? = some (some (.ref a)))
    (hF : W.F a = none) (hI : ¬ W.In a) (hH : H a = some (.lst xs)) (hd : DmAll K W ys es) : SR K B (env.set i (.o (.list es))) σ (upd H a (.lst ys)) := ⟨W, wr_core rel ok g0 nw h hs hF hI hH hd⟩
theorem app_of {i : Nat} {D : Ends} {σ : L2.St} {H : Hp} (h : tMS K B (rApp i r) D σ H) : tDrop (tBM K "list" rAppend (tVar i) (tCons (tM K r) tNil)) D σ H := by
  obtain ⟨env, ⟨W, rel, ok, g0, nw⟩, M, hr, en⟩ := h
  unfold rApp at hr
  split at hr
  · rename_i ds hi
    obtain ⟨v, ev, own⟩ := rel.op i _ hi
    obtain ⟨a, xs, rfl, fa, ia, ha, dms⟩ := own
    refine ⟨.ref a, ev, .inl ⟨rfl, xs, SqL.of ha⟩, env, W, rel, ok, _, hr, fun d p v W' H' o g dm => ?_⟩
    refine ⟨a, xs, v, rfl, rfl, g.h _ _ ha ia, by rw [dms.length]; exact p.1, en.nx _ p.2 _ _ ?_⟩
    exact SR.wr (rel.gr g) o (g0.trans g) nw hi ev (g.nf _ _ ha fa) (g.ns _ _ ha ia) (g.h _ _ ha ia) ((g.dms dms).append (.cons dm .nil))
  · exact hr.elim
theorem ext_of {i : Nat} {D : Ends} {σ : L2.St} {H : Hp} (h : tMS K B (rExt i r) D σ H) : tDrop (tBM K "list" rExtend (tVar i) (tCons (tM K r) tNil)) D σ H := by
  obtain ⟨env, ⟨W, rel, ok, g0, nw⟩, M, hr, en⟩ := h
  unfold rExt at hr
  split at hr
  · rename_i ds hi
    obtain ⟨v, ev, own⟩ := rel.op i _ hi
    obtain ⟨a, xs, rfl, fa, ia, ha, dms⟩ := own
    refine ⟨.ref a, ev, .inl ⟨rfl, xs, SqL.of ha⟩, env, W, rel, ok, _, hr, fun d p v W' H' o g dm => ?_⟩
    cases d with
    | list es =>
      cases dm with
      | lst h1 h2 =>
        refine ⟨a, _, xs, _, rfl, rfl, g.h _ _ ha ia, o.fh _ _ h1, by rw [dms.length, h2.length]; exact p.1, en.nx _ p.2 _ _ ?_⟩
        exact SR.wr (rel.gr g) o (g0.trans g) nw hi ev (g.nf _ _ ha fa) (g.ns _ _ ha ia) (g.h _ _ ha ia) ((g.dms dms).append h2)
    | _ => exact False.elim p
  · exact hr.elim
theorem ms_app (i : Nat) {o : Expr} {apos cpos : Pos} (ho : PE X o (tVar i)) (he : PE X e (tM X.K r)) (hbase : attributeBase o "append" X.env (eval o X.env) = eval o X.env := by rfl)
    (hfew : ((backTo cpos (starEach [e] X.env)).all (fun x => !x.1) && (backToKw cpos (keywordEach [] X.env)).all (fun x => x.1.isSome) && decide ([e].length + ([] : List Keyword).length + (if ([] : List Keyword).isEmpty then 0 else 1) < 30)) = true := by rfl)
    (hline : (apos.endLine == cpos.line) = true := by rfl) (hs : starEach [e] X.env = (false, eval e X.env) :: starEach [] X.env := by rfl)
    (hsw : swapsWith (.Call (.Attribute o "append" apos) [e] [] cpos) none pos.line X.env = pure false := by rfl) : PS X (.Expr (.Call (.Attribute o "append" apos) [e] [] cpos) pos) (tMS X.K B (rApp i r)) :=
  imS (ps_expr (pe_bm PySem.F.plainAttrs_list PySem.F.slot_list_append PySem.F.type_list_append mt_append ho (pa_cons he pa_nil hs) hbase hfew hline hs rfl) hsw) fun _ _ _ h => app_of h
theorem ms_ext (i : Nat) {o : Expr} {apos cpos : Pos} (ho : PE X o (tVar i)) (he : PE X e (tM X.K r)) (hbase : attributeBase o "extend" X.env (eval o X.env) = eval o X.env := by rfl)
    (hfew : ((backTo cpos (starEach [e] X.env)).all (fun x => !x.1) && (backToKw cpos (keywordEach [] X.env)).all (fun x => x.1.isSome) && decide ([e].length + ([] : List Keyword).length + (if ([] : List Keyword).isEmpty then 0 else 1) < 30)) = true := by rfl)
    (hline : (apos.endLine == cpos.line) = true := by rfl) (hs : starEach [e] X.env = (false, eval e X.env) :: starEach [] X.env := by rfl)
    (hsw : swapsWith (.Call (.Attribute o "extend" apos) [e] [] cpos) none pos.line X.env = pure false := by rfl) : PS X (.Expr (.Call (.Attribute o "extend" apos) [e] [] cpos) pos) (tMS X.K B (rExt i r)) :=
  imS (ps_expr (pe_bm PySem.F.plainAttrs_list PySem.F.slot_list_extend PySem.F.type_list_extend mt_extend ho (pa_cons he pa_nil hs) hbase hfew hline hs rfl) hsw) fun _ _ _ h => ext_of h
end

/-! ### targets -/
abbrev RG := En → PyData → (En → Prop) → Prop
abbrev RGs := En → List PyData → (En → Prop) → Prop
/-- what a store into names keeps -/
def KeepO (env e : En) (σ σ' : L2.St) : Prop := ∀ (i : Nat) (d : PyData), e[i]? = some (.o d) → env[i]? = some (.o d) ∧ σ'[i]? = σ[i]?
/-- stores only into the slots is -/
def OnlyAt (is : List Nat) (σ σ' : L2.St) : Prop := σ'.length = σ.length ∧ ∀ j : Nat, j ∉ is → σ'[j]? = σ[j]?
def tMG (K : PySem.W.Frag) (is : List Nat) (r : RG) : TG := fun v σ H Q => ∃ env W, Rel K W H env σ ∧ WOk W H ∧ ∃ d, Dm K W v d ∧ ∃ P, r env d P ∧ ∀ e, P e → ∀ σ', Rel K W H e σ' → KeepO env e σ σ' → OnlyAt is σ σ' → Q σ' H
def tMGs (K : PySem.W.Frag) (is : List Nat) (r : RGs) : TGs := fun vs σ H Q => ∃ env W, Rel K W H env σ ∧ WOk W H ∧ ∃ ds, DmAll K W vs ds ∧ ∃ P, r env ds P ∧ ∀ e, P e → ∀ σ', Rel K W H e σ' → KeepO env e σ σ' → OnlyAt is σ σ' → Q σ' H
def rgName (i : Nat) : RG := fun env d P => P (env.set i (.f d))
def rgNil : RGs := fun env ds P => match ds with
  | [] => P env
  | _ => False
def rgCons (g : RG) (gs : RGs) : RGs := fun env ds P => match ds with
  | d :: ds => g env d fun e => gs e ds P
  | [] => False
def rgTup (n : Nat) (gs : RGs) : RG := fun env d P => match d with
  | .tuple ds => ds.length = n ∧ gs env ds P
  | _ => False
theorem keepO_set (env : En) (σ : L2.St) (i : Nat) (d : PyData) (v : V) : KeepO env (env.set i (.f d)) σ (σ.set i (some v)) := fun j e q => by
  rw [List.getElem?_set] at q ⊢
  by_cases hj : i = j
  · subst hj
    rw [if_pos rfl] at q
    split at q <;> cases q
  · rw [if_neg hj] at q ⊢
    exact ⟨q, rfl⟩
theorem KeepO.trans {a b c : En} {σ σ' σ'' : L2.St} (h : KeepO a b σ σ') (k : KeepO b c σ' σ'') : KeepO a c σ σ'' := fun i d q =>
  let ⟨q1, e1⟩ := k i d q
  let ⟨q2, e2⟩ := h i d q1
  ⟨q2, e1.trans e2⟩
theorem KeepO.new {a b : En} {σ σ' : L2.St} {H0 : Hp} (h : KeepO a b σ σ') (n : NewO H0 a σ) : NewO H0 b σ' := fun i d x q p => by
  obtain ⟨q1, e1⟩ := h i d q
  rw [e1] at p
  exact n i d x q1 p
section
variable {X : Cx} {pos : Pos} {g : RG} {gs : RGs} {e : Expr} {es : List Expr}
theorem imG {t t' : TG} (h : PG X e t) (f : ∀ v σ H Q, t' v σ H Q → t v σ H Q) : PG X e t' := ⟨fun pins s σ H v u Q I r q => h.run pins s σ H v u Q I r (f v σ H Q q)⟩
theorem imGs {t t' : TGs} (h : PGs X es t) (f : ∀ v σ H Q, t' v σ H Q → t v σ H Q) : PGs X es t' := ⟨fun pins s σ H v u Q I r q => h.run pins s σ H v u Q I r (f v σ H Q q)⟩
theorem mg_name (m : X.N.Nodup) (i : Nat) {x : Str} (hi : X.N[i]? = some x := by rfl) (hx : Loc X.env.scope x := by first | exact Or.inl rfl | exact Or.inr rfl) (hf : X.fn x = true ∨ X.env.scope.names.lookup x = some .local := by first | exact .inl rfl | exact .inr rfl) :
    PG X (.Name x pos) (tMG X.K [i] (rgName i)) := imG (pg_name m hi hx hf) fun v σ H Q ⟨env, W, rel, ok, d, dm, P, hr, hq⟩ => hq _ hr _ (rel.set i dm) (keepO_set env σ i d v) ⟨List.length_set, fun j hj => by
      rw [List.getElem?_set_ne (fun z => hj (by simp [z]))]⟩
theorem mg_nil : PGs X [] (tMGs X.K [] rgNil) := imGs pgs_nil fun vs σ H Q ⟨env, W, rel, ok, ds, dms, P, hr, hq⟩ => by
  cases dms with
  | nil => exact ⟨rfl, hq _ hr _ rel (fun i d q => ⟨q, rfl⟩) ⟨rfl, fun _ _ => rfl⟩⟩
  | cons _ _ => exact False.elim hr
theorem mg_cons {is js : List Nat} (h1 : PG X e (tMG X.K is g)) (h2 : PGs X es (tMGs X.K js gs)) (hs : (assignEach (e :: es) X.env).map (·.2) = assign e X.env :: (assignEach es X.env).map (·.2) := by rfl) : PGs X (e :: es) (tMGs X.K (is ++ js) (rgCons g gs)) :=
  imGs (pgs_cons h1 h2 hs) fun vs σ H Q ⟨env, W, rel, ok, ds, dms, P, hr, hq⟩ => by
    cases dms with
    | nil => exact False.elim hr
    | cons d1 d2 => exact ⟨_, _, rfl, env, W, rel, ok, _, d1, _, hr, fun e p σ' rel' k' o' => ⟨e, W, rel', ok, _, d2, P, p, fun e2 p2 σ2 rel2 k2 o2 => hq e2 p2 σ2 rel2 (k'.trans k2) ⟨o2.1.trans o'.1, fun j hj => (o2.2 j fun z => hj (List.mem_append_right _ z)).trans (o'.2 j fun z => hj (List.mem_append_left _ z))⟩⟩⟩
theorem mg_tup {k n : Nat} {is : List Nat} (hc : X.calm = true) (h : PGs X es (tMGs X.K is gs)) (hn : (assignEach es X.env).length = n := by rfl) (hst : (assignEach es X.env).findIdx? (·.1) = none := by rfl) : PG X (.Tuple es k pos) (tMG X.K is (rgTup n gs)) :=
  imG (pg_tup hc h hn hst) fun v σ H Q ⟨env, W, rel, ok, d, dm, P, hr, hq⟩ => by
    cases d with
    | tuple ds =>
      cases dm with
      | tup h1 h2 => exact ⟨_, _, rfl, SqT.gr ok.fh h1, by rw [h2.length]; exact hr.1, env, W, rel, ok, ds, h2, P, hr.2, hq⟩
    | _ => exact False.elim hr
/-- a, b = e and the like -/
def rAsg (r : RE) (g : RG) : RS := fun env M => r env fun d => g env d M.nx
theorem ms_asg {B : Bs} {r : RE} {tg e : Expr} {is : List Nat} (he : PE X e (tM X.K r)) (hg : PG X tg (tMG X.K is g)) (hs : swapsWithSole [tg] e pos.line X.env = pure false := by rfl) (hw : swappedStores [tg] e X.env = pure none := by rfl)
    (h1 : (assignEach [tg] X.env).map (·.2) = [assign tg X.env] := by rfl) : PS X (.Assign [tg] e pos) (tMS X.K B (rAsg r g)) := imS (ps_asg he hg hs hw h1) fun D σ H ⟨env, ⟨W, rel, ok, g0, nw⟩, M, hr, en⟩ =>
  ⟨env, W, rel, ok, _, hr, fun d p v W' H' o g dm => ⟨env, W', rel.gr g, o, d, dm, _, p, fun e p' σ' rel' k _ => en.nx e p' _ _ ⟨W', rel', o, g0.trans g, k.new nw⟩⟩⟩
/-- a, b = x, y with plain local names -/
def rPar (is : List Nat) (ra : RA) : RS := fun env M => ra env fun ds => ds.length = is.length ∧ M.nx ((is.zip ds).foldl (fun e p => e.set p.1 (.f p.2)) env)
theorem ms_par {B : Bs} {ra : RA} {i j : Nat} {x y : Str} {a b : Expr} {px py pt : Pos} {kt k2 pt2} (hc : X.calm = true) (m : X.N.Nodup) (ha : PA X [a, b] (tMA X.K ra)) (hi : X.N[i]? = some x := by rfl) (hj : X.N[j]? = some y := by rfl) (hij : i ≠ j := by decide)
    (hx : X.env.scope.names.lookup x = some .local := by rfl) (hy : X.env.scope.names.lookup y = some .local := by rfl)
    (hw : swappedStores [.Tuple [.Name x px, .Name y py] kt pt] (.Tuple [a, b] k2 pt2) X.env = pure (some [x, y]) := by rfl)
    (hs : swapsWithSole [.Tuple [.Name x px, .Name y py] kt pt] (.Tuple [a, b] k2 pt2) pos.line X.env = pure false := by rfl) :
    PS X (.Assign [.Tuple [.Name x px, .Name y py] kt pt] (.Tuple [a, b] k2 pt2) pos) (tMS X.K B (rPar [i, j] ra)) :=
  imS (ps_par hc m hi hj hij hx hy ha hw hs) fun D σ H ⟨env, ⟨W, rel, ok, g0, nw⟩, M, hr, en⟩ => ⟨env, W, rel, ok, _, hr, fun ds p vs W' H' o g dms => by
    obtain ⟨hl, p⟩ := p
    match ds, hl, dms, p with
    | [d1, d2], _, .cons e1 (.cons e2 .nil), p => exact ⟨_, _, rfl, en.nx _ p _ _ ⟨W', ((rel.gr g).set i e1).set j e2, o, g0.trans g, (nw.set i).set j⟩⟩⟩
theorem ms_par3 {B : Bs} {ra : RA} {i j l : Nat} {x y z : Str} {a b c : Expr} {px py pz pt : Pos} {kt k2 pt2} (hc : X.calm = true) (m : X.N.Nodup) (ha : PA X [a, b, c] (tMA X.K ra)) (hi : X.N[i]? = some x := by rfl) (hj : X.N[j]? = some y := by rfl) (hl : X.N[l]? = some z := by rfl)
    (hij : i ≠ j := by decide) (hil : i ≠ l := by decide) (hjl : j ≠ l := by decide)
    (hx : X.env.scope.names.lookup x = some .local := by rfl) (hy : X.env.scope.names.lookup y = some .local := by rfl) (hz : X.env.scope.names.lookup z = some .local := by rfl)
    (hw : swappedStores [.Tuple [.Name x px, .Name y py, .Name z pz] kt pt] (.Tuple [a, b, c] k2 pt2) X.env = pure (some [x, y, z]) := by rfl)
    (hs : swapsWithSole [.Tuple [.Name x px, .Name y py, .Name z pz] kt pt] (.Tuple [a, b, c] k2 pt2) pos.line X.env = pure false := by rfl) :
    PS X (.Assign [.Tuple [.Name x px, .Name y py, .Name z pz] kt pt] (.Tuple [a, b, c] k2 pt2) pos) (tMS X.K B (rPar [i, j, l] ra)) :=
  imS (ps_par3 hc m hi hj hl hij hil hjl hx hy hz ha hw hs) fun D σ H ⟨env, ⟨W, rel, ok, g0, nw⟩, M, hr, en⟩ => ⟨env, W, rel, ok, _, hr, fun ds p vs W' H' o g dms => by
    obtain ⟨hl, p⟩ := p
    match ds, hl, dms, p with
    | [d1, d2, d3], _, .cons e1 (.cons e2 (.cons e3 .nil)), p => exact ⟨_, _, _, rfl, en.nx _ p _ _ ⟨W', (((rel.gr g).set i e1).set j e2).set l e3, o, g0.trans g, ((nw.set i).set j).set l⟩⟩⟩
end

/-! ### what is walked -/
abbrev RI := En → (List PyData → Prop) → Prop
/-- items that stand whatever the body does to open lists; that stand while expressions run -/
def ItS (K : PySem.W.Frag) (W : Wd) (_ : Hp) (J : It) (ds : List PyData) : Prop := ∀ W2 H2, WOk W2 H2 → (∀ a o, W.F a = some o → W2.F a = some o) → (∀ a c, W.S a = some c → W2.S a = some c) → ∀ i : Nat,
  (∀ d, ds[i]? = some d → J.go i H2 ∧ ∀ x H3, J.yld i H2 x H3 → ∃ W3, WOk W3 H3 ∧ Gr W2 W3 H2 H3 ∧ Dm K W3 x d) ∧ (ds.length ≤ i → J.stop i H2)
def ItE (K : PySem.W.Frag) (W : Wd) (H : Hp) (J : It) (ds : List PyData) : Prop := ∀ W2 H2, WOk W2 H2 → Gr W W2 H H2 → ∀ i : Nat,
  (∀ d, ds[i]? = some d → J.go i H2 ∧ ∀ x H3, J.yld i H2 x H3 → ∃ W3, WOk W3 H3 ∧ Gr W2 W3 H2 H3 ∧ Dm K W3 x d) ∧ (ds.length ≤ i → J.stop i H2)
abbrev ItP := PySem.W.Frag → Wd → Hp → It → List PyData → Prop
def tMI (K : PySem.W.Frag) (Y : ItP) (r : RI) : TI := fun σ H R => ∃ env W, Rel K W H env σ ∧ WOk W H ∧ ∃ P : List PyData → Prop, r env P ∧ ∀ ds, P ds → ∀ J W' H', WOk W' H' → Gr W W' H H' → Y K W' H' J ds → R J H'
theorem ItS.e {K : PySem.W.Frag} {W : Wd} {H : Hp} {J : It} {ds : List PyData} (h : ItS K W H J ds) : ItE K W H J ds := fun W2 H2 ok g i => h W2 H2 ok g.f g.s i
end MM
set_option Elab.async false
set_option linter.all false
set_option maxRecDepth 100000
set_option maxHeartbeats 1000000
/-! M5: iterators, for, while, comprehensions -/
namespace MM
open PySem PySem.Spec L2
section
variable {K : PySem.W.Frag} {W : Wd} {H : Hp}
theorem its_list {a : Addr} {xs : List V} {ds : List PyData} (h : W.F a = some (.lst xs)) (dms : DmAll K W xs ds) : ItS K W H (Itl K a) ds := fun W2 H2 ok f s i => by
  have hh : SqL K H2 a xs := SqL.of (ok.fh _ _ (f _ _ h))
  have dm2 : DmAll K W2 xs ds := dms.gr f s
  refine ⟨fun d e => ?_, fun hi => ⟨xs, hh, by rw [dms.length]; exact hi⟩⟩
  obtain ⟨v, ev, dv⟩ := dm2.get e
  refine ⟨⟨xs, v, hh, ev⟩, fun x H3 y => ?_⟩
  obtain ⟨rfl, hy⟩ := y
  have := hy xs hh
  rw [ev] at this; cases this
  exact ⟨W2, ok, Gr.refl _ _, dv⟩
theorem its_tup {a : Addr} {xs : List V} {ds : List PyData} (h : SqT K W.F a xs) (dms : DmAll K W xs ds) : ItS K W H (Itt K a) ds := fun W2 H2 ok f s i => by
  have hh : SqT K H2 a xs := SqT.gr (fun a o e => ok.fh _ _ (f _ _ e)) h
  have dm2 : DmAll K W2 xs ds := dms.gr f s
  refine ⟨fun d e => ?_, fun hi => ⟨xs, hh, by rw [dms.length]; exact hi⟩⟩
  obtain ⟨v, ev, dv⟩ := dm2.get e
  refine ⟨⟨xs, v, hh, ev⟩, fun x H3 y => ?_⟩
  obtain ⟨rfl, hy⟩ := y
  have := hy xs hh
  rw [ev] at this; cases this
  exact ⟨W2, ok, Gr.refl _ _, dv⟩
theorem ite_list {a : Addr} {xs : List V} {ds : List PyData} (hF : W.F a = none) (hI : ¬ W.In a) (h : H a = some (.lst xs)) (dms : DmAll K W xs ds) : ItE K W H (Itl K a) ds := fun W2 H2 ok g i => by
  have hh : SqL K H2 a xs := SqL.of (g.h _ _ h hI)
  have dm2 : DmAll K W2 xs ds := g.dms dms
  refine ⟨fun d e => ?_, fun hi => ⟨xs, hh, by rw [dms.length]; exact hi⟩⟩
  obtain ⟨v, ev, dv⟩ := dm2.get e
  refine ⟨⟨xs, v, hh, ev⟩, fun x H3 y => ?_⟩
  obtain ⟨rfl, hy⟩ := y
  have := hy xs hh
  rw [ev] at this; cases this
  exact ⟨W2, ok, Gr.refl _ _, dv⟩
/-- a range's items -/
def rangeC (a c : Int) (n : Nat) : List PyData := (List.range n).map fun (i : Nat) => PyData.int (a + (i : Int) * c)
def rangeD (lo : Int) (n : Nat) : List PyData := (List.range n).map fun (i : Nat) => PyData.int (lo + (i : Int))
theorem rangeD_get {lo : Int} {n i : Nat} {d : PyData} (e : (rangeD lo n)[i]? = some d) : i < n ∧ d = .int (lo + (i : Int)) := by
  unfold rangeD at e
  rw [List.getElem?_map] at e
  by_cases h : i < n
  · rw [List.getElem?_range h] at e
    cases e
    exact ⟨h, rfl⟩
  · rw [List.getElem?_eq_none (by simpa using h)] at e
    cases e
theorem rangeC_get {a c : Int} {n i : Nat} {d : PyData} (e : (rangeC a c n)[i]? = some d) : i < n ∧ d = .int (a + (i : Int) * c) := by
  unfold rangeC at e
  rw [List.getElem?_map] at e
  by_cases h : i < n
  · rw [List.getElem?_range h] at e
    cases e
    exact ⟨h, rfl⟩
  · rw [List.getElem?_eq_none (by simpa using h)] at e
    cases e
theorem its_range {lo : Int} {n : Nat} : ItS K W H (Itr lo n) (rangeD lo n) := fun W2 H2 ok f s i => by
  refine ⟨fun d e => ?_, fun hi => by
    have h2 : n ≤ i := by simpa [rangeD] using hi
    exact h2⟩
  obtain ⟨hi, rfl⟩ := rangeD_get e
  refine ⟨hi, fun x H3 y => ?_⟩
  obtain ⟨rfl, rfl⟩ := y
  exact ⟨W2, ok, Gr.refl _ _, .int _⟩
theorem its_rangeC {a c : Int} {n : Nat} : ItS K W H (Itc a c n) (rangeC a c n) := fun W2 H2 ok f s i => by
  refine ⟨fun d e => ?_, fun hi => by
    have h2 : n ≤ i := by simpa [rangeC] using hi
    exact h2⟩
  obtain ⟨hi, rfl⟩ := rangeC_get e
  refine ⟨hi, fun x H3 y => ?_⟩
  obtain ⟨rfl, rfl⟩ := y
  exact ⟨W2, ok, Gr.refl _ _, .int _⟩
def charsD (x : Str) : List PyData := x.cps.toList.map fun c => .str ⟨#[c]⟩
theorem its_str {x : Str} : ItS K W H (Its x) (charsD x) := fun W2 H2 ok f s i => by
  refine ⟨fun d e => ?_, fun hi => by
    have h2 : x.cps.size ≤ i := by simpa [charsD] using hi
    exact h2⟩
  unfold charsD at e
  rw [List.getElem?_map] at e
  cases q : x.cps.toList[i]? with
  | none => rw [q] at e; cases e
  | some c =>
    rw [q] at e
    cases e
    have q' : x.cps[i]? = some c := by simpa using q
    obtain ⟨hi, _⟩ := Array.getElem?_eq_some_iff.mp q'
    refine ⟨hi, fun y H3 z => ?_⟩
    obtain ⟨rfl, c', ec, rfl⟩ := z
    rw [q'] at ec; cases ec
    exact ⟨W2, ok, Gr.refl _ _, .str _⟩
/-- enumerate's items -/
def enumD : Nat → List PyData → List PyData
  | _, [] => []
  | i, d :: ds => .tuple [.int i, d] :: enumD (i + 1) ds
theorem enumD_get : ∀ {ds : List PyData} {k i : Nat} {d : PyData}, (enumD k ds)[i]? = some d → ∃ e, ds[i]? = some e ∧ d = .tuple [.int ((k + i : Nat) : Int), e]
  | [], k, i, d, h => by simp [enumD] at h
  | x :: ds, k, 0, d, h => by
    simp [enumD] at h
    exact ⟨x, rfl, by simpa using h.symm⟩
  | x :: ds, k, i + 1, d, h => by
    have h' : (enumD (k + 1) ds)[i]? = some d := by simpa [enumD] using h
    obtain ⟨e, e1, e2⟩ := enumD_get h'
    exact ⟨e, by simpa using e1, by rw [e2, show k + 1 + i = k + (i + 1) by omega]⟩
theorem enumD_length : ∀ (ds : List PyData) (k : Nat), (enumD k ds).length = ds.length
  | [], _ => rfl
  | _ :: ds, k => by simp [enumD, enumD_length ds (k + 1)]
/-- zip's items -/
def zipD : List PyData → List PyData → List PyData
  | d :: ds, e :: es => .tuple [d, e] :: zipD ds es
  | _, _ => []
theorem zipD_get : ∀ {ds es : List PyData} {i : Nat} {d : PyData}, (zipD ds es)[i]? = some d → ∃ x y, ds[i]? = some x ∧ es[i]? = some y ∧ d = .tuple [x, y]
  | [], _, i, d, h => by simp [zipD] at h
  | _ :: _, [], i, d, h => by simp [zipD] at h
  | x :: ds, y :: es, 0, d, h => by
    simp [zipD] at h
    exact ⟨x, y, rfl, rfl, h.symm⟩
  | x :: ds, y :: es, i + 1, d, h => by
    obtain ⟨a, b, e1, e2, e3⟩ := zipD_get (ds := ds) (es := es) (i := i) (by simpa [zipD] using h)
    exact ⟨a, b, by simpa using e1, by simpa using e2, e3⟩
theorem zipD_length : ∀ (ds es : List PyData), (zipD ds es).length = min ds.length es.length
  | [], _ => by simp [zipD]
  | _ :: _, [] => by simp [zipD]
  | _ :: ds, _ :: es => by simp [zipD, zipD_length ds es]
theorem pair_laid {W2 : Wd} {H2 : Hp} {T : Addr} {u v : V} {x y : PyData} (ok : WOk W2 H2) (hT : H2 T = none) (h1 : Dm K W2 u x) (h2 : Dm K W2 v y) :
    ∃ W3, WOk W3 (upd H2 T (.tup [u, v])) ∧ Gr W2 W3 H2 (upd H2 T (.tup [u, v])) ∧ Dm K W3 (.ref T) (.tuple [x, y]) := by
  obtain ⟨o, g⟩ := lay (o := .tup [u, v]) ok hT
  exact ⟨_, o, g, .tup (SqT.of upd_same) (.cons (g.dm h1) (.cons (g.dm h2) .nil))⟩
/-- how a datum's items stand: frozen, or open and kept by expressions -/
theorem ite_enum {v : V} {a : Addr} {xs : List V} {ds : List PyData} (hx : ∀ W2 H2, WOk W2 H2 → Gr W W2 H H2 → SqL K H2 a xs) (dms : DmAll K W xs ds) : ItE K W H (Ite K a) (enumD 0 ds) := fun W2 H2 ok g i => by
  have hh := hx W2 H2 ok g
  have dm2 : DmAll K W2 xs ds := g.dms dms
  refine ⟨fun d e => ?_, fun hi => ⟨xs, hh, by rw [dms.length]; rw [enumD_length] at hi; exact hi⟩⟩
  obtain ⟨y, ey, rfl⟩ := enumD_get e
  obtain ⟨v, ev, dv⟩ := dm2.get ey
  refine ⟨⟨xs, v, hh, ev⟩, fun x H3 z => ?_⟩
  obtain ⟨T, u, rfl, hT, rfl, hu⟩ := z
  have := hu xs hh
  rw [ev] at this; cases this
  rw [Nat.zero_add]
  exact pair_laid ok hT (.int _) dv
theorem its_enum {a : Addr} {xs : List V} {ds : List PyData} (h : W.F a = some (.lst xs)) (dms : DmAll K W xs ds) : ItS K W H (Ite K a) (enumD 0 ds) := fun W2 H2 ok f s i => by
  have hh : SqL K H2 a xs := SqL.of (ok.fh _ _ (f _ _ h))
  have dm2 : DmAll K W2 xs ds := dms.gr f s
  refine ⟨fun d e => ?_, fun hi => ⟨xs, hh, by rw [dms.length]; rw [enumD_length] at hi; exact hi⟩⟩
  obtain ⟨y, ey, rfl⟩ := enumD_get e
  obtain ⟨v, ev, dv⟩ := dm2.get ey
  refine ⟨⟨xs, v, hh, ev⟩, fun x H3 z => ?_⟩
  obtain ⟨T, u, rfl, hT, rfl, hu⟩ := z
  have := hu xs hh
  rw [ev] at this; cases this
  rw [Nat.zero_add]
  exact pair_laid ok hT (.int _) dv
theorem its_zip {a b : Addr} {xs ys : List V} {ds es : List PyData} (h : W.F a = some (.lst xs)) (dms : DmAll K W xs ds) (h2 : W.F b = some (.lst ys)) (dms2 : DmAll K W ys es) : ItS K W H (Itz K a b) (zipD ds es) := fun W2 H2 ok f s i => by
  have hh : SqL K H2 a xs := SqL.of (ok.fh _ _ (f _ _ h))
  have hh2 : SqL K H2 b ys := SqL.of (ok.fh _ _ (f _ _ h2))
  have dm2 : DmAll K W2 xs ds := dms.gr f s
  have dm3 : DmAll K W2 ys es := dms2.gr f s
  refine ⟨fun d e => ?_, fun hi => ⟨xs, ys, hh, hh2, by rw [dms.length, dms2.length]; rw [zipD_length] at hi; omega⟩⟩
  obtain ⟨x, y, ex, ey, rfl⟩ := zipD_get e
  obtain ⟨v, ev, dv⟩ := dm2.get ex
  obtain ⟨u, eu, du⟩ := dm3.get ey
  refine ⟨⟨xs, ys, v, u, hh, hh2, ev, eu⟩, fun z H3 q => ?_⟩
  obtain ⟨T, v', u', rfl, hT, rfl, h1, h2⟩ := q
  have := h1 xs hh
  rw [ev] at this; cases this
  have := h2 ys hh2
  rw [eu] at this; cases this
  exact pair_laid ok hT dv du
theorem its_zipT {a b : Addr} {xs ys : List V} {ds es : List PyData} (h : SqT K W.F a xs) (dms : DmAll K W xs ds) (h2 : SqT K W.F b ys) (dms2 : DmAll K W ys es) : ItS K W H (RZ.ItzT K a b) (zipD ds es) := fun W2 H2 ok f s i => by
  have hh : SqT K H2 a xs := SqT.gr (fun a o e => ok.fh _ _ (f _ _ e)) h
  have hh2 : SqT K H2 b ys := SqT.gr (fun a o e => ok.fh _ _ (f _ _ e)) h2
  have dm2 : DmAll K W2 xs ds := dms.gr f s
  have dm3 : DmAll K W2 ys es := dms2.gr f s
  refine ⟨fun d e => ?_, fun hi => ⟨xs, ys, hh, hh2, by rw [dms.length, dms2.length]; rw [zipD_length] at hi; omega⟩⟩
  obtain ⟨x, y, ex, ey, rfl⟩ := zipD_get e
  obtain ⟨v, ev, dv⟩ := dm2.get ex
  obtain ⟨u, eu, du⟩ := dm3.get ey
  refine ⟨⟨xs, ys, v, u, hh, hh2, ev, eu⟩, fun z H3 q => ?_⟩
  obtain ⟨T, v', u', rfl, hT, rfl, h1, h2⟩ := q
  have := h1 xs hh
  rw [ev] at this; cases this
  have := h2 ys hh2
  rw [eu] at this; cases this
  exact pair_laid ok hT dv du
end

/-! ### rules for what is walked -/
section
variable {X : Cx} {tg e : Expr} {r : RE} {ra : RA} {pos p : Pos}
theorem imI {wi wi' : TI} (h : PI X tg e wi) (f : ∀ σ H R, wi' σ H R → wi σ H R) : PI X tg e wi' := ⟨fun pins s σ H R I q => h.run pins s σ H R I (f σ H R q)⟩
/-- what stands for statements stands for expressions -/
theorem mi_e {ri : RI} (h : PI X tg e (tMI X.K ItS ri)) : PI X tg e (tMI X.K ItE ri) := imI h fun σ H R ⟨env, W, rel, ok, P, hr, hq⟩ => ⟨env, W, rel, ok, P, hr, fun ds p J W' H' o g y => hq ds p J W' H' o g y.e⟩
def iRange1 (ra : RA) : RI := fun env P => ra env fun xs => match xs with
  | [.int j] => (-(2 ^ 62) ≤ j ∧ j < 2 ^ 62) ∧ P (rangeD 0 j.toNat)
  | _ => False
def iRange2 (ra : RA) : RI := fun env P => ra env fun xs => match xs with
  | [.int i, .int j] => (-(2 ^ 62) ≤ i ∧ i < 2 ^ 62 ∧ -(2 ^ 62) ≤ j ∧ j < 2 ^ 62) ∧ P (rangeD i (j - i).toNat)
  | _ => False
def iRange3 (ra : RA) : RI := fun env P => ra env fun xs => match xs with
  | [.int i, .int j, .int c] => ∃ n, RgC i j c n ∧ P (rangeC i c n)
  | _ => False
theorem mi_range1 {a : Expr} (hm : X.mg "range" = none) (ha : PA X [a] (tMAw X.K ra)) (hg : Gl X "range" := by rfl) (hs : starEach [a] X.env = [(false, eval a X.env)] := by rfl) : PI X tg (.Call (.Name "range" p) [a] [] pos) (tMI X.K ItS (iRange1 ra)) :=
  imI (pi_range1 hg hm ha hs) fun σ H R ⟨env, W, rel, ok, P, hr, hq⟩ => ⟨env, W, rel, ok, _, hr, fun ds p vs W' H' o g wa => by
    match ds, wa, p with
    | [.int j], wa, p =>
      obtain ⟨v, rfl, w⟩ := wa.one
      have := w.int; subst this
      exact ⟨j, rfl, p.1.1, p.1.2, hq _ p.2 _ W' H' o g its_range⟩⟩
theorem mi_range2 {a b : Expr} (hm : X.mg "range" = none) (ha : PA X [a, b] (tMAw X.K ra)) (hg : Gl X "range" := by rfl) (hs : starEach [a, b] X.env = [(false, eval a X.env), (false, eval b X.env)] := by rfl) (hs2 : starEach [b] X.env = [(false, eval b X.env)] := by rfl) :
    PI X tg (.Call (.Name "range" p) [a, b] [] pos) (tMI X.K ItS (iRange2 ra)) :=
  imI (pi_range2 hg hm ha hs hs2) fun σ H R ⟨env, W, rel, ok, P, hr, hq⟩ => ⟨env, W, rel, ok, _, hr, fun ds p vs W' H' o g wa => by
    match ds, wa, p with
    | [.int i, .int j], wa, p =>
      obtain ⟨v, u, rfl, w, w2⟩ := wa.two
      have := w.int; subst this
      have := w2.int; subst this
      exact ⟨i, j, rfl, p.1, hq _ p.2 _ W' H' o g its_range⟩⟩
theorem mi_range3 {a b c : Expr} (hm : X.mg "range" = none) (ha : PA X [a, b, c] (tMAw X.K ra)) (hg : Gl X "range" := by rfl) (hs : starEach [a, b, c] X.env = (false, eval a X.env) :: starEach [b, c] X.env := by rfl) (hpl : (backTo pos (starEach [b, c] X.env)).any (·.1) = false := by rfl) :
    PI X tg (.Call (.Name "range" p) [a, b, c] [] pos) (tMI X.K ItS (iRange3 ra)) :=
  imI (pi_range3 hg hm ha hs hpl) fun σ H R ⟨env, W, rel, ok, P, hr, hq⟩ => ⟨env, W, rel, ok, _, hr, fun ds p vs W' H' o g wa => by
    match ds, wa, p with
    | [.int i, .int j, .int k], .cons w1 (.cons w2 (.cons w3 .nil)), ⟨n, q1, q2⟩ =>
      have := w1.int; subst this
      have := w2.int; subst this
      have := w3.int; subst this
      exact ⟨i, j, k, n, rfl, q1, hq _ q2 _ W' H' o g its_rangeC⟩⟩
/-- a list, a tuple, a text -/
def seqP (P : List PyData → Prop) : PyData → Prop
  | .list ds => P ds
  | .tuple ds => P ds
  | .str x => P (charsD x)
  | _ => False
def iSeq (r : RE) : RI := fun env P => r env (seqP P)
/-- an expression's value, made: for the library's rules about what is walked -/
theorem val_it {pins : List (Addr × Obj)} {s1 : Shared} {σ : L2.St} {H1 : Hp} {R : It → Hp → Prop} {x : V} {v : Value} (I1 : Inv X pins σ H1 s1) (r1 : RelV x v)
    (h : (∃ a, x = .ref a ∧ (∃ xs, SqL X.K H1 a xs) ∧ R (Itl X.K a) H1) ∨ (∃ a, x = .ref a ∧ (∃ xs, SqT X.K H1 a xs) ∧ R (Itt X.K a) H1) ∨ (∃ z, x = .str z ∧ R (Its z) H1)) (e : Expr) :
    wpAny (model X.prog X.w) X.A (pyIter v) (PIE X pins σ tg R) X.xe s1 := by
  rcases h with ⟨a, rfl, ⟨xs, hq⟩, q⟩ | ⟨a, rfl, ⟨xs, hq⟩, q⟩ | ⟨z, rfl, q⟩
  · cases r1
    obtain ⟨its, rv, pl, hz⟩ := I1.list hq
    refine wpAny_pyIter_list pl.isList ⟨s1.heap.objs.size, [s1.heap.objs.size], _, _, H1, rfl, I1.kept (t' := s1.toks) fun b o e => Heap.get?_push_of_some _ e, turn_list a _, ⟨_, Heap.get?_push_size _ rfl, rfl, rfl⟩, fun b hb => ?_, q⟩
    obtain rfl : b = s1.heap.objs.size := by simpa using hb
    exact I1.fpOk (Nat.le_refl _) I1.fresh
  · cases r1
    obtain ⟨its, rv, pl, hz⟩ := I1.tuple hq
    refine wpAny_pyIter_tuple (show s1.heap.IsTuple a its.toArray from pl) ⟨s1.heap.objs.size, [s1.heap.objs.size], _, _, H1, rfl, I1.kept (t' := s1.toks) fun b o e => Heap.get?_push_of_some _ e, turn_tuple a _, ⟨_, Heap.get?_push_size _ rfl, rfl, rfl⟩, fun b hb => ?_, q⟩
    obtain rfl : b = s1.heap.objs.size := by simpa using hb
    exact I1.fpOk (Nat.le_refl _) I1.fresh
  · obtain ⟨t, rfl⟩ := r1
    cases ha : z.cps.all (· < 128)
    · exact wpAny_pyIter_wide ha (pi_one (tk := s1.toks) I1 _ (turn_str _ z t "str_iterator" (.inr rfl)) ⟨_, Heap.get?_push_size _ rfl, rfl, rfl⟩ q)
    · exact wpAny_pyIter_ascii ha (pi_one (tk := s1.toks) I1 _ (turn_str _ z t "str_ascii_iterator" (.inl rfl)) ⟨_, Heap.get?_push_size _ rfl, rfl, rfl⟩ q)
theorem seq_it {Y : ItP} {H : Hp} {R : It → Hp → Prop} (P : List PyData → Prop) {W : Wd} (ok : WOk W H) (hq : ∀ ds, P ds → ∀ J, Y X.K W H J ds → R J H) {x : V} {d : PyData}
    (h : (∃ ds a xs, d = .list ds ∧ x = .ref a ∧ H a = some (.lst xs) ∧ Y X.K W H (Itl X.K a) ds) ∨ (∃ ds a xs, d = .tuple ds ∧ x = .ref a ∧ SqT X.K W.F a xs ∧ Y X.K W H (Itt X.K a) ds) ∨ (∃ z, d = .str z ∧ x = .str z ∧ Y X.K W H (Its z) (charsD z)))
    (p : seqP P d) :
    (∃ a, x = .ref a ∧ (∃ xs, SqL X.K H a xs) ∧ R (Itl X.K a) H) ∨ (∃ a, x = .ref a ∧ (∃ xs, SqT X.K H a xs) ∧ R (Itt X.K a) H) ∨ (∃ z, x = .str z ∧ R (Its z) H) := by
  rcases h with ⟨ds, a, xs, rfl, rfl, h1, y⟩ | ⟨ds, a, xs, rfl, rfl, h1, y⟩ | ⟨z, rfl, rfl, y⟩
  · exact .inl ⟨a, rfl, ⟨xs, SqL.of h1⟩, hq _ p _ y⟩
  · exact .inr (.inl ⟨a, rfl, ⟨xs, SqT.gr ok.fh h1⟩, hq _ p _ y⟩)
  · exact .inr (.inr ⟨z, rfl, hq _ p _ y⟩)
/-- for x in e: e frozen -/
theorem mi_seq (he : PE X e (tM X.K r)) : PI X tg e (tMI X.K ItS (iSeq r)) := ⟨fun pins s σ H R I ⟨env, W, rel, ok, P, hr, hq⟩ => by
  refine thn (he.run pins s σ H (fun x H1 => (∃ a, x = .ref a ∧ (∃ xs, SqL X.K H1 a xs) ∧ R (Itl X.K a) H1) ∨ (∃ a, x = .ref a ∧ (∃ xs, SqT X.K H1 a xs) ∧ R (Itt X.K a) H1) ∨ (∃ z, x = .str z ∧ R (Its z) H1)) I
    ⟨env, W, rel, ok, _, hr, fun d p v W' H' o g dm => ?_⟩) fun v s1 ⟨x, H1, I1, r1, q1⟩ => val_it I1 r1 q1 e
  refine seq_it (Y := ItS) (d := d) P o (fun ds p J y => hq ds p J W' H' o g y) ?_ p
  cases dm with
  | lst h1 h2 => exact .inl ⟨_, _, _, rfl, rfl, o.fh _ _ h1, its_list h1 h2⟩
  | tup h1 h2 => exact .inr (.inl ⟨_, _, _, rfl, rfl, h1, its_tup h1 h2⟩)
  | str z => exact .inr (.inr ⟨z, rfl, rfl, its_str⟩)
  | _ => exact False.elim p⟩
/-- in a comprehension: e may be open -/
theorem mi_seqw (he : PE X e (tMw X.K r)) : PI X tg e (tMI X.K ItE (iSeq r)) := ⟨fun pins s σ H R I ⟨env, W, rel, ok, P, hr, hq⟩ => by
  refine thn (he.run pins s σ H (fun x H1 => (∃ a, x = .ref a ∧ (∃ xs, SqL X.K H1 a xs) ∧ R (Itl X.K a) H1) ∨ (∃ a, x = .ref a ∧ (∃ xs, SqT X.K H1 a xs) ∧ R (Itt X.K a) H1) ∨ (∃ z, x = .str z ∧ R (Its z) H1)) I
    ⟨env, W, rel, ok, _, hr, fun d p v W' H' o g wx => ?_⟩) fun v s1 ⟨x, H1, I1, r1, q1⟩ => val_it I1 r1 q1 e
  refine seq_it (Y := ItE) (d := d) P o (fun ds p J y => hq ds p J W' H' o g y) ?_ p
  rcases wx with dm | ow
  · cases dm with
    | lst h1 h2 => exact .inl ⟨_, _, _, rfl, rfl, o.fh _ _ h1, (its_list h1 h2).e⟩
    | tup h1 h2 => exact .inr (.inl ⟨_, _, _, rfl, rfl, h1, (its_tup h1 h2).e⟩)
    | str z => exact .inr (.inr ⟨z, rfl, rfl, its_str.e⟩)
    | _ => exact False.elim p
  · cases d with
    | list ds =>
      obtain ⟨a, xs, rfl, f1, i1, h1, dms⟩ := ow
      exact .inl ⟨_, _, _, rfl, rfl, h1, ite_list f1 i1 h1 dms⟩
    | _ => exact ow.elim⟩
def iEnumM (ra : RA) : RI := fun env P => ra env fun xs => match xs with
  | [.list ds] => P (enumD 0 ds)
  | _ => False
theorem mi_enum {elts : List Expr} {kk : Nat} {tpos : Pos} (hm : X.mg "enumerate" = none) (ha : PA X [e] (tMA X.K ra)) (hg : Gl X "enumerate" := by rfl) (hs : starEach [e] X.env = [(false, eval e X.env)] := by rfl) :
    PI X (.Tuple elts kk tpos) (.Call (.Name "enumerate" p) [e] [] pos) (tMI X.K ItS (iEnumM ra)) := imI (pi_enum hg hm ha hs) fun σ H R ⟨env, W, rel, ok, P, hr, hq⟩ => ⟨env, W, rel, ok, _, hr, fun ds p vs W' H' o g dms => by
    match ds, dms, p with
    | [.list ds], .cons (.lst h1 h2) .nil, p => exact ⟨_, _, rfl, SqL.of (o.fh _ _ h1), hq _ p _ W' H' o g (its_enum h1 h2)⟩⟩
def iZipM (ra : RA) : RI := fun env P => ra env fun xs => match xs with
  | [.list ds, .list es] => P (zipD ds es)
  | [.tuple ds, .tuple es] => P (zipD ds es)
  | _ => False
theorem mi_zip {e2 : Expr} {elts : List Expr} {kk : Nat} {tpos : Pos} (hm : X.mg "zip" = none) (ha : PA X [e, e2] (tMA X.K ra)) (hg : Gl X "zip" := by rfl) (hs : starEach [e, e2] X.env = (false, eval e X.env) :: starEach [e2] X.env := by rfl)
    (hpl : (backTo pos (starEach [e2] X.env)).any (·.1) = false := by rfl) : PI X (.Tuple elts kk tpos) (.Call (.Name "zip" p) [e, e2] [] pos) (tMI X.K ItS (iZipM ra)) :=
  imI (RZ.pi_zipA hg hm ha hs hpl) fun σ H R ⟨env, W, rel, ok, P, hr, hq⟩ => ⟨env, W, rel, ok, _, hr, fun ds p vs W' H' o g dms => by
    match ds, dms, p with
    | [.list ds, .list es], .cons (.lst h1 h2) (.cons (.lst h3 h4) .nil), p => exact ⟨_, _, _, _, rfl, .inl ⟨SqL.of (o.fh _ _ h1), SqL.of (o.fh _ _ h3), hq _ p _ W' H' o g (its_zip h1 h2 h3 h4)⟩⟩
    | [.tuple ds, .tuple es], .cons (.tup h1 h2) (.cons (.tup h3 h4) .nil), p => exact ⟨_, _, _, _, rfl, .inr ⟨SqT.gr o.fh h1, SqT.gr o.fh h3, hq _ p _ W' H' o g (its_zipT h1 h2 h3 h4)⟩⟩⟩
end

/-! ### for, while -/
def forR (g : RG) (b : RS) : List PyData → En → ME → Prop
  | [], env, M => M.nx env
  | d :: ds, env, M => g env d fun e => b e { M with nx := fun e => forR g b ds e M, ct := fun e => forR g b ds e M, bk := M.nx }
def rFor (ri : RI) (g : RG) (b : RS) : RS := fun env M => ri env fun ds => forR g b ds env M
def whR (c : RT) (b : RS) : Nat → En → ME → Prop
  | 0, _, _ => False
  | n + 1, env, M => c env fun t => if t = true then b env { M with nx := fun e => whR c b n e M, ct := fun e => whR c b n e M, bk := M.nx } else M.nx env
def rWhile (c : RT) (b : RS) : RS := fun env M => ∃ n, whR c b n env M
section
variable {X : Cx} {B : Bs} {pos : Pos} {b : RS} {n : Nat}
theorem GB.unZ {B : Bs} {Z W : Wd} {H : Hp} (z : GB { B with Z := Z } W H) (f : ∀ a o, B.Z.F a = some o → Z.F a = some o) (s : ∀ a c, B.Z.S a = some c → Z.S a = some c) : GB B W H := ⟨z.g, fun a o e => z.f a o (f a o e), fun a c e => z.s a c (s a c e)⟩
theorem ms_for {tg iter : Expr} {body : List Stmt} {ri : RI} {g : RG} {is : List Nat} (hp : PassesOwn (model X.prog X.w) X.A X.env X.xe) (hc : X.calm = true) (hi : PI X tg iter (tMI X.K ItS ri)) (hg : PG X tg (tMG X.K is g)) (hb : ∀ Z : Wd, PSs X body (tMS X.K { B with Z := Z } b))
    (hs : ∀ x, foldedSetIterable iter X.env x = pure x := by intro _; rfl) : PS X (.For tg iter body [] pos) (tMS X.K B (rFor ri g b)) := by
  have hb' : PSs X body (fun D σ H => ∃ Z : Wd, tMS X.K { B with Z := Z } b D σ H) := ⟨fun pins s σ H D I ⟨Z, h⟩ => (hb Z).run pins s σ H D I h⟩
  refine imS (ps_for hp hc hi hg hb' hs) fun D σ H ⟨env, ⟨W, rel, ok, g0, nw⟩, M, hr, en⟩ => ?_
  refine ⟨env, W, rel, ok, _, hr, fun ds p J W1 H1 o1 g1 y => ?_⟩
  have g01 := g0.trans g1
  refine ⟨fun i m σ' H' => m = ds.length - i ∧ i ≤ ds.length ∧ ∃ e, SR X.K { B with Z := W1 } e σ' H' ∧ forR g b (ds.drop i) e M,
    ⟨ds.length, rfl, Nat.zero_le _, env, ⟨W1, rel.gr g1, o1, ⟨g01.g, fun _ _ e => e, fun _ _ e => e⟩, nw⟩, p⟩, ?_⟩
  rintro i m σ' H' ⟨rfl, hi, e, sr, q'⟩
  obtain ⟨W', rel', o', g', nw'⟩ := sr
  obtain ⟨y1, y2⟩ := y W' H' o' g'.f g'.s i
  by_cases hlt : i < ds.length
  · rw [List.drop_eq_getElem_cons hlt] at q'
    obtain ⟨go, st⟩ := y1 ds[i] (List.getElem?_eq_getElem hlt)
    have nxt : ∀ σ2 H2, (∃ e2, SR X.K { B with Z := W1 } e2 σ2 H2 ∧ forR g b (ds.drop (i + 1)) e2 M) → ∃ m', m' < ds.length - i ∧ m' = ds.length - (i + 1) ∧ i + 1 ≤ ds.length ∧ ∃ e2, SR X.K { B with Z := W1 } e2 σ2 H2 ∧ forR g b (ds.drop (i + 1)) e2 M := fun σ2 H2 h => ⟨_, by omega, rfl, hlt, h⟩
    refine .inr ⟨go, fun σ2 H2 => ∃ e2, SR X.K { B with Z := W1 } e2 σ2 H2 ∧ forR g b (ds.drop (i + 1)) e2 M, nxt, fun x H2 yx => ?_⟩
    obtain ⟨W2, o2, g2, dm⟩ := st x H2 yx
    have rel2 := rel'.gr g2
    refine ⟨e, W2, rel2, o2, _, dm, _, q', fun e2 p2 σ2 rl2 k2 _ => ?_⟩
    refine ⟨W1, e2, ⟨W2, rl2, o2, g'.trans g2, k2.new nw'⟩, _, p2, ⟨fun e3 p3 σ3 H3 s3 => ⟨e3, s3, p3⟩, fun d pd v W3 H3 o3 b3 dm3 => en.rt d pd v W3 H3 o3 (b3.unZ g01.f g01.s) dm3, fun e3 p3 σ3 H3 s3 => ?_, fun e3 p3 σ3 H3 s3 => ⟨e3, s3, p3⟩⟩⟩
    obtain ⟨W3, rl3, o3, b3, n3⟩ := s3
    exact en.nx e3 p3 _ _ ⟨W3, rl3, o3, b3.unZ g01.f g01.s, n3⟩
  · have ei : i = ds.length := by omega
    subst ei
    rw [List.drop_length] at q'
    exact .inl ⟨y2 (Nat.le_refl _), en.nx _ q' _ _ ⟨W', rel', o', g'.unZ g01.f g01.s, nw'⟩⟩
theorem ms_while {c : Expr} {body : List Stmt} {t : RT} (hp : PassesOwn (model X.prog X.w) X.A X.env X.xe) (hc : PT X c (tMT X.K t)) (hb : PSs X body (tMS X.K B b)) : PS X (.While c body [] pos) (tMS X.K B (rWhile t b)) :=
  imS (ps_while hp hc hb) fun D σ H ⟨env, s, M, ⟨n, hr⟩, en⟩ => by
  refine ⟨fun m σ' H' => ∃ e, SR X.K B e σ' H' ∧ whR t b m e M, ⟨n, env, s, hr⟩, ?_⟩
  rintro m σ' H' ⟨e, ⟨W, rel, ok, g0, nw⟩, q⟩
  cases m with
  | zero => exact q.elim
  | succ m =>
    refine ⟨e, W, rel, ok, _, q, fun v p W' H2 o g => ?_⟩
    cases v with
    | true =>
      rw [if_pos rfl] at p ⊢
      refine ⟨fun σ2 H2 => ∃ e, SR X.K B e σ2 H2 ∧ whR t b m e M, fun σ2 H2 z => ⟨m, Nat.lt_succ_self m, z⟩, e, ⟨W', rel.gr g, o, g0.trans g, nw⟩, _, p, ⟨fun e' p' σ3 H3 s3 => ⟨e', s3, p'⟩, en.rt, en.nx, fun e' p' σ3 H3 s3 => ⟨e', s3, p'⟩⟩⟩
    | false =>
      rw [if_neg Bool.false_ne_true] at p ⊢
      exact en.nx _ p _ _ ⟨W', rel.gr g, o, g0.trans g, nw⟩
end

/-! ### comprehensions -/
def wipeE (env : En) : List Nat → En
  | [] => env
  | v :: vs => (wipeE env vs).set v .u
theorem Rel.setU {K : PySem.W.Frag} {W : Wd} {H : Hp} {env : En} {σ : L2.St} (r : Rel K W H env σ) (i : Nat) : Rel K W H (env.set i .u) (σ.set i none) := by
  refine ⟨by rw [List.length_set, List.length_set]; exact r.len, fun j e q => ?_, fun j e q => ?_, fun j k e e' u ne q q' p p' => ?_⟩
  · rw [List.getElem?_set] at q ⊢
    by_cases hj : i = j
    · subst hj
      rw [if_pos rfl] at q
      split at q <;> cases q
    · rw [if_neg hj] at q ⊢
      exact r.fz j e q
  · rw [List.getElem?_set] at q ⊢
    by_cases hj : i = j
    · subst hj
      rw [if_pos rfl] at q
      split at q <;> cases q
    · rw [if_neg hj] at q ⊢
      exact r.op j e q
  · rw [List.getElem?_set] at q q' p p'
    by_cases hj : i = j
    · subst hj
      rw [if_pos rfl] at q
      split at q <;> cases q
    · by_cases hk : i = k
      · subst hk
        rw [if_pos rfl] at q'
        split at q' <;> cases q'
      · rw [if_neg hj] at q p
        rw [if_neg hk] at q' p'
        exact r.sep j k e e' u ne q q' p p'
theorem Rel.wipe {K : PySem.W.Frag} {W : Wd} {H : Hp} {env : En} {σ : L2.St} (r : Rel K W H env σ) : ∀ vs : List Nat, Rel K W H (wipeE env vs) (L2.wipe σ vs)
  | [] => r
  | v :: vs => (Rel.wipe r vs).setU v
theorem wipe_get (σ : L2.St) (j : Nat) : ∀ vs : List Nat, (L2.wipe σ vs)[j]? = if j ∈ vs then (if j < σ.length then some none else none) else σ[j]?
  | [] => by simp [L2.wipe]
  | v :: vs => by
    unfold L2.wipe
    rw [List.getElem?_set]
    by_cases h : v = j
    · subst h
      rw [if_pos rfl, if_pos (List.mem_cons_self), wipe_length]
    · rw [if_neg h, wipe_get σ j vs]
      have e : (j ∈ v :: vs) = (j ∈ vs) := by
        rw [List.mem_cons]
        exact propext ⟨fun z => z.resolve_left (Ne.symm h), .inr⟩
      simp only [e]
theorem wipe_same {σ σ' : L2.St} {is vs : List Nat} (o : OnlyAt is (L2.wipe σ vs) σ') (h : ∀ j ∈ is, j ∈ vs) : L2.wipe σ' vs = L2.wipe σ vs := by
  have hl := o.1
  rw [wipe_length] at hl
  refine List.ext_getElem? fun j => ?_
  rw [wipe_get, wipe_get, hl]
  by_cases hj : j ∈ vs
  · rw [if_pos hj, if_pos hj]
  · rw [if_neg hj, if_neg hj]
    have := o.2 j fun z => hj (h j z)
    rw [wipe_get, if_neg hj] at this
    exact this
def lcR (g : RG) (t : RT) (r : RE) (env : En) : List PyData → List PyData → (List PyData → Prop) → Prop
  | [], acc, P => P acc
  | d :: ds, acc, P => g env d fun e => t e fun c => if c = true then r e fun y => acc.length < sizeLine ∧ lcR g t r env ds (acc ++ [y]) P else lcR g t r env ds acc P
def rLc (vs : List Nat) (ri : RI) (g : RG) (t : RT) (r : RE) : RE := fun env P => ri env fun ds => lcR g t r (wipeE env vs) ds [] fun ys => P (.list ys)
def rYes : RT := fun _ P => P true
theorem Gr.updO {W W' : Wd} {H H' : Hp} {D : Addr} {o : HO} (g : Gr W W' H H') (hD : H D = Option.none) : Gr W W' H (upd H' D o) := by
  have ne : ∀ {a : Addr} {u : HO}, H a = some u → a ≠ D := fun e z => by rw [z, hD] at e; cases e
  exact ⟨g.f, g.s, fun a u e n => by rw [upd_ne (ne e)]; exact g.h a u e n, fun a u e => by rw [upd_ne (ne e)]; exact g.hs a u e, g.nf, g.ns⟩
section
variable {K : PySem.W.Frag} {ri : RI} {g : RG} {t : RT} {r : RE} {σ : L2.St} {H : Hp} {Q : VK} {vs is : List Nat}
theorem lc_of (h : tMf K (rLc vs ri g t r) σ H Q) (hv : ∀ j ∈ is, j ∈ vs) : tLc (tMI K ItE ri) (tMG K is g) (tMT K t) (tM K r) vs σ H Q := by
  obtain ⟨env, W, rel, ok, P, hr, hq⟩ := h
  refine ⟨env, W, rel, ok, _, hr, fun ds p J W1 H1 o1 g1 y D hD => ?_⟩
  have rel1 := rel.gr g1
  obtain ⟨oD, gD, fD, nD⟩ := layO (o := .lst []) o1 hD
  refine ⟨fun i m Hc => m = ds.length - i ∧ i ≤ ds.length ∧ ∃ W2 acc xs, WOk W2 Hc ∧ Gr W1 W2 H1 Hc ∧ Hc D = some (.lst xs) ∧ W2.F D = none ∧ ¬ W2.In D ∧ DmAll K W2 xs acc ∧ lcR g t r (wipeE env vs) (ds.drop i) acc fun ys => P (.list ys),
    ⟨ds.length, rfl, Nat.zero_le _, W1, [], [], oD, gD, upd_same, fD, nD, .nil, p⟩, ?_⟩
  rintro i m Hc ⟨rfl, hi, W2, acc, xs, o2, g2, hDc, f2, n2, dms, q⟩
  obtain ⟨y1, y2⟩ := y W2 Hc o2 g2 i
  by_cases hlt : i < ds.length
  · rw [List.drop_eq_getElem_cons hlt] at q
    obtain ⟨go, st⟩ := y1 ds[i] (List.getElem?_eq_getElem hlt)
    refine .inr ⟨go, fun H' => ∃ W2 acc xs, WOk W2 H' ∧ Gr W1 W2 H1 H' ∧ H' D = some (.lst xs) ∧ W2.F D = none ∧ ¬ W2.In D ∧ DmAll K W2 xs acc ∧ lcR g t r (wipeE env vs) (ds.drop (i + 1)) acc fun ys => P (.list ys),
      fun H' h' => ⟨_, by omega, rfl, hlt, h'⟩, fun x H3 yx => ?_⟩
    obtain ⟨W3, o3, g3, dm⟩ := st x H3 yx
    have rw3 := (((rel1.gr g2).gr g3)).wipe vs
    refine ⟨_, W3, rw3, o3, _, dm, _, q, fun e2 p2 σ2 rl2 k2 oa2 => ⟨?_, e2, W3, rl2, o3, _, p2, fun c pc W4 H4 o4 g4 => ?_⟩⟩
    · exact wipe_same oa2 hv
    · have hD3 := g3.h _ _ hDc n2
      have f3 := g3.nf _ _ hDc f2
      have n3 := g3.ns _ _ hDc n2
      have hD4 := g4.h _ _ hD3 n3
      have f4 := g4.nf _ _ hD3 f3
      have n4 := g4.ns _ _ hD3 n3
      cases c with
      | false =>
        exact iteF ⟨W4, acc, xs, o4, (g2.trans g3).trans g4, hD4, f4, n4, g4.dms (g3.dms dms), pc⟩
      | true =>
        refine iteT ⟨e2, W4, rl2.gr g4, o4, _, pc, fun z pz v W5 H5 o5 g5 dz => ?_⟩
        have hD5 := g5.h _ _ hD4 n4
        have f5 := g5.nf _ _ hD4 f4
        have n5 := g5.ns _ _ hD4 n4
        have dm5 := g5.dms (g4.dms (g3.dms dms))
        refine ⟨xs, hD5, by rw [dms.length]; exact pz.1, W5, acc ++ [z], xs ++ [v], wrO o5 hD5 f5 n5, (((g2.trans g3).trans g4).trans g5).updO hD, upd_same, f5, n5, dm5.append (.cons dz .nil), pz.2⟩
  · have ei : i = ds.length := by omega
    subst ei
    rw [List.drop_length] at q
    exact .inl ⟨y2 (Nat.le_refl _), hq _ q _ _ _ o2 (g1.trans g2) ⟨D, rfl, g1.none hD, D, xs, rfl, f2, n2, hDc, dms⟩⟩
variable {X : Cx} {n : Nat} {pos p : Pos}
theorem MX.blk {s : Shared} {H' : Hp} {scope : Scope} {cenv : Env} {fp : List Addr} (m : MX X n) : MX (X.blk s H' scope cenv fp) n := ⟨m.calm, m.room, m.gu, m.nd⟩
theorem mts_nil : PTs X [] (tMT X.K rYes) := ⟨fun pins s σ H Q I ⟨env, W, rel, ok, P, hr, hq⟩ => pts_nil.run pins s σ H Q I (hq _ hr W H ok (Gr.refl _ _))⟩
theorem mts_one {c : Expr} (h : PT X c (tMT X.K t)) : PTs X [c] (tMT X.K t) := pts_one h
/-- [elt for tg in iter if ..]: the list is new and open -/
theorem mlc {elt tg iter : Expr} {ifs : List Expr} {scope : Scope} (own : List (Str × Nat)) (m : MX X n) (hi : PI X tg iter (tMI X.K ItE ri)) (ok : BlkOk X.N X.env.scope scope own)
    (hg : ∀ (s : Shared) (H : Hp) (C : Addr) (cl : List (Str × Addr)) (fp : List Addr), PG (X.blk s H scope (compEnvC scope cl C X.env) fp) tg (tMG X.K is g))
    (ht : ∀ (s : Shared) (H : Hp) (C : Addr) (cl : List (Str × Addr)) (fp : List Addr), PTs (X.blk s H scope (compEnvC scope cl C X.env) fp) ifs (tMT X.K t))
    (he : ∀ (s : Shared) (H : Hp) (C : Addr) (cl : List (Str × Addr)) (fp : List Addr), PE (X.blk s H scope (compEnvC scope cl C X.env) fp) elt (tM X.K r)) (hv : ∀ j ∈ is, j ∈ own.map (·.2) := by decide)
    (hs : ∀ x, foldedSetIterable iter X.env x = pure x := by intro _; rfl) : PE X (.ListComp elt [⟨tg, iter, ifs, 0⟩] scope pos) (tMf X.K (rLc (own.map (·.2)) ri g t r)) :=
  imE (pe_lc m.calm m.nd hi ok hg ht he hs) fun _ _ _ h => lc_of h hv
/-- y = [..], open; frozen -/
theorem ms_setLcO {B : Bs} (i : Nat) {y : Str} {py spos : Pos} {elt tg iter : Expr} {ifs : List Expr} {scope : Scope} (own : List (Str × Nat)) (m : MX X n) (hi : PI X tg iter (tMI X.K ItE ri)) (ok : BlkOk X.N X.env.scope scope own)
    (hg : ∀ (s : Shared) (H : Hp) (C : Addr) (cl : List (Str × Addr)) (fp : List Addr), PG (X.blk s H scope (compEnvC scope cl C X.env) fp) tg (tMG X.K is g))
    (ht : ∀ (s : Shared) (H : Hp) (C : Addr) (cl : List (Str × Addr)) (fp : List Addr), PTs (X.blk s H scope (compEnvC scope cl C X.env) fp) ifs (tMT X.K t))
    (he : ∀ (s : Shared) (H : Hp) (C : Addr) (cl : List (Str × Addr)) (fp : List Addr), PE (X.blk s H scope (compEnvC scope cl C X.env) fp) elt (tM X.K r)) (hv : ∀ j ∈ is, j ∈ own.map (·.2) := by decide)
    (hy : X.N[i]? = some y := by rfl) (hyl : X.env.scope.names.lookup y = some .local := by rfl) (hsw : swapsWith (.ListComp elt [⟨tg, iter, ifs, 0⟩] scope pos) (some (.Name y py)) spos.line X.env = pure true := by exact sw_true rfl rfl rfl (by decide +kernel))
    (hs : ∀ x, foldedSetIterable iter X.env x = pure x := by intro _; rfl) : PS X (.Assign [.Name y py] (.ListComp elt [⟨tg, iter, ifs, 0⟩] scope pos) spos) (tMS X.K B (rSetO i (rLc (own.map (·.2)) ri g t r))) :=
  imS (ps_setLc m.calm m.nd hy hyl hsw hi ok hg ht he hs) fun D σ H h => by
    have z := setO_of h
    exact lc_of z hv
theorem thaw_of {K : PySem.W.Frag} {r : RE} {σ : L2.St} {H : Hp} {Q : VK} (h : tM K r σ H Q) : tMf K r σ H Q := by
  obtain ⟨env, W, rel, ok, P, hr, hq⟩ := h
  refine ⟨env, W, rel, ok, P, hr, fun d p v W' H' o g x => ?_⟩
  obtain ⟨a, rfl, hn, own⟩ := x
  cases d with
  | list ds =>
    obtain ⟨W2, o2, g2, dm⟩ := own.freezeG o g fun b z => by cases z; exact hn
    exact hq _ p _ W2 H' o2 g2 dm
  | _ => exact own.elim
theorem ms_setLc {B : Bs} (i : Nat) {y : Str} {py spos : Pos} {elt tg iter : Expr} {ifs : List Expr} {scope : Scope} (own : List (Str × Nat)) (m : MX X n) (hi : PI X tg iter (tMI X.K ItE ri)) (ok : BlkOk X.N X.env.scope scope own)
    (hg : ∀ (s : Shared) (H : Hp) (C : Addr) (cl : List (Str × Addr)) (fp : List Addr), PG (X.blk s H scope (compEnvC scope cl C X.env) fp) tg (tMG X.K is g))
    (ht : ∀ (s : Shared) (H : Hp) (C : Addr) (cl : List (Str × Addr)) (fp : List Addr), PTs (X.blk s H scope (compEnvC scope cl C X.env) fp) ifs (tMT X.K t))
    (he : ∀ (s : Shared) (H : Hp) (C : Addr) (cl : List (Str × Addr)) (fp : List Addr), PE (X.blk s H scope (compEnvC scope cl C X.env) fp) elt (tM X.K r)) (hv : ∀ j ∈ is, j ∈ own.map (·.2) := by decide)
    (hy : X.N[i]? = some y := by rfl) (hyl : X.env.scope.names.lookup y = some .local := by rfl) (hsw : swapsWith (.ListComp elt [⟨tg, iter, ifs, 0⟩] scope pos) (some (.Name y py)) spos.line X.env = pure true := by exact sw_true rfl rfl rfl (by decide +kernel))
    (hs : ∀ x, foldedSetIterable iter X.env x = pure x := by intro _; rfl) : PS X (.Assign [.Name y py] (.ListComp elt [⟨tg, iter, ifs, 0⟩] scope pos) spos) (tMS X.K B (rSet i (rLc (own.map (·.2)) ri g t r))) :=
  imS (ps_setLc m.calm m.nd hy hyl hsw hi ok hg ht he hs) fun D σ H h => by
    have z := set_of h
    exact lc_of (thaw_of z) hv
end
end MM
set_option Elab.async false
set_option linter.all false
set_option maxRecDepth 100000
set_option maxHeartbeats 1000000
/-! M6: defs, calls, the law's end -/
namespace MM
open PySem PySem.Spec L2
/-- the def at f does what R says, of data, wherever nothing is being shown by repr -/
structure FnG (P : Program) (w : World) (K : PySem.W.Frag) (mg : Str → Option Value) (base : Heap) (k : Nat) (f : Addr) (fd : FuncData) (ps : List Str) (R : KC) : Prop where
  len : ∀ ds Pp, R ds Pp → ds.length = ps.length
  run : ∀ (A : Around) (outer : List Env) (s : Shared) (H : Hp) (args : Args) (us : List Value) (vs : List V) (W : Wd) (ds : List PyData) (Pp : RP) (Q : VK), Room k A → A.guards = some [] → Env0 P w K mg base A outer s H → BindsTo s fd args (ps.zip us) → Vals vs us →
    WOk W H → DmAll K W vs ds → R ds Pp → (∀ d, Pp d → ∀ v W' H', WOk W' H' → Gr W W' H H' → Dm K W' v d → Q v H') → codeAny (model P w) A (.call (.ref f) args) (CR CX0 outer P w H s Q E0) s
theorem FnG.imp {P : Program} {w : World} {K : PySem.W.Frag} {mg : Str → Option Value} {base : Heap} {k : Nat} {f : Addr} {fd : FuncData} {ps : List Str} {R R' : KC} (F : FnG P w K mg base k f fd ps R) (h : ∀ ds Pp, R' ds Pp → R ds Pp) : FnG P w K mg base k f fd ps R' :=
  ⟨fun ds Pp q => F.len ds Pp (h ds Pp q), fun A outer s H args us vs W ds Pp Q hr hg e0 hb r ok dms q hq => F.run A outer s H args us vs W ds Pp Q hr hg e0 hb r ok dms (h ds Pp q) hq⟩
theorem FnG.mono {P : Program} {w : World} {K : PySem.W.Frag} {mg : Str → Option Value} {base : Heap} {j k : Nat} {f : Addr} {fd : FuncData} {ps : List Str} {R : KC} (F : FnG P w K mg base j f fd ps R) (h : j ≤ k) : FnG P w K mg base k f fd ps R :=
  ⟨F.len, fun A outer s H args us vs W ds Pp Q hr => F.run A outer s H args us vs W ds Pp Q (hr.mono h)⟩
section
variable {X : Cx} {n k : Nat} {f : Addr} {fd : FuncData} {ps : List Str} {R : KC} {x : Str} {p pos : Pos} {e : Expr} {es : List Expr} {ra : RA}
theorem run_g {pins : List (Addr × Obj)} {σ : L2.St} {H : Hp} {s : Shared} {Q : VK} {us : List Value} {vs : List V} {W : Wd} {ds : List PyData} {Pp : RP} (F : FnG X.prog X.w X.K X.mg X.base k f fd ps R) (m : MX X k) (hb : Binds X.K fd ps []) (I : L2.Inv X pins σ H s) (r : Vals vs us)
    (ok : WOk W H) (dms : DmAll X.K W vs ds) (q : R ds Pp) (hq : ∀ d, Pp d → ∀ v W' H', WOk W' H' → Gr W W' H H' → Dm X.K W' v d → Q v H') : wpAny (model X.prog X.w) X.A (call (.ref f) us) (EP X pins σ Q) X.xe s := by
  have hl : (us ++ []).length = ps.length := by rw [List.append_nil, ← r.length, dms.length]; exact F.len _ _ q
  have b := hb s us I.kIn hl
  rw [List.append_nil] at b
  refine wpAny_call (codeAny_mono (F.run X.A X.stack s H ⟨us, []⟩ us vs W ds Pp Q m.room m.gu I.env0 b r ok dms q hq) fun res s' h => ?_)
  match res, h with
  | .ok (.ret u), h => exact I.after h
theorem mcall (m : MX X n) (F : FnG X.prog X.w X.K X.mg X.base k f fd ps R) (hm : X.mg x = some (.ref f)) (hk : PySem.W.keepIn X.K (.ref f) = true) (hb : Binds X.K fd ps []) (ha : PA X (e :: es) (tMA X.K ra)) (hkn : k ≤ n := by decide) (hg : Gl X x := by rfl)
    (hdb : (x == ("__debug__" : Str)) = false := by decide) (he : starEach (e :: es) X.env = (false, eval e X.env) :: starEach es X.env := by rfl) (hpl : (backTo pos (starEach es X.env)).any (·.1) = false := by rfl) :
    PE X (.Call (.Name x p) (e :: es) [] pos) (tM X.K (rFn R ra)) := ⟨fun pins s σ H Q I ⟨env, W, rel, ok, P, hr, hq⟩ => by
  have m' : MX X k := ⟨m.calm, m.room.mono hkn, m.gu, m.nd⟩
  refine wpAny_Call_Name_kw (ld_glob I hg hm (PySem.W.callWith_K (h₀ := X.base) I.ok.mod.kin hk (thn (ha.run pos pins s σ H (fun vs H1 => ∃ W1 ds, WOk W1 H1 ∧ Gr W W1 H H1 ∧ DmAll X.K W1 vs ds ∧ R ds P) I ?_) fun us s1 hx => ?_) he hpl) hdb)
  · exact ⟨env, W, rel, ok, _, hr, fun ds pd vs W' H' o g dms => ⟨W', ds, o, g, dms, pd⟩⟩
  · obtain ⟨vs, H1, I1, r, W1, ds, o1, g1, dms, q⟩ := hx
    exact ⟨I1.kIn, run_g F m' hb I1 r o1 dms q fun d pd v W' H' o g dm => hq d pd v W' H' o (g1.trans g) dm⟩⟩
end

/-! ### a def's body -/
def startE (N : Nat) (ds : List PyData) : En := ds.map Sl.f ++ List.replicate (N - ds.length) Sl.u
def rDef (n N : Nat) (b : RS) : KC := fun ds P => ds.length = n ∧ b (startE N ds) { nx := fun _ => P .none, rt := P }
theorem rel_start {K : PySem.W.Frag} {W : Wd} {H : Hp} {N : List Str} {vs : List V} {ds : List PyData} (dms : DmAll K W vs ds) : Rel K W H (startE N.length ds) (L2.start N vs) := by
  have hl := dms.length
  have noO : ∀ (i : Nat) (d : PyData), (startE N.length ds)[i]? ≠ some (.o d) := fun i d q => by
    unfold startE at q
    rw [List.getElem?_append] at q
    split at q
    · rw [List.getElem?_map] at q
      cases e : ds[i]? with
      | none => rw [e] at q; cases q
      | some y => rw [e] at q; cases q
    · rw [List.getElem?_replicate] at q
      split at q <;> cases q
  refine ⟨by unfold startE L2.start; simp [hl], fun i d q => ?_, fun i d q => absurd q (noO i d), fun i j d e v _ q => absurd q (noO i d)⟩
  unfold startE at q
  rw [List.getElem?_append] at q
  split at q
  · rename_i hi
    rw [List.getElem?_map] at q
    cases e : ds[i]? with
    | none => rw [e] at q; cases q
    | some y =>
      rw [e] at q
      cases q
      obtain ⟨v, ev, dv⟩ := dms.get e
      refine ⟨v, ?_, dv⟩
      unfold L2.start
      obtain ⟨hv, _⟩ := List.getElem?_eq_some_iff.mp ev
      rw [List.getElem?_append_left (by simpa using hv), List.getElem?_map, ev]
      rfl
  · rw [List.getElem?_replicate] at q
    split at q <;> cases q
theorem newO_start {N : Nat} {ds : List PyData} {H0 : Hp} {σ : L2.St} : NewO H0 (startE N ds) σ := fun i d a q => by
  unfold startE at q
  rw [List.getElem?_append] at q
  split at q
  · rw [List.getElem?_map] at q
    cases e : ds[i]? with
    | none => rw [e] at q; cases q
    | some y => rw [e] at q; cases q
  · rw [List.getElem?_replicate] at q
    split at q <;> cases q
section
variable {P : Program} {w : World} {K : PySem.W.Frag} {mg : Str → Option Value} {base : Heap}
/-- a def by any reading of its body -/
theorem def_raw {q qual : Str} {st : Stmt} {f : Addr} {fd : FuncData} {N ps : List Str} {k : Nat} {R : KC} (F : Fun K q qual st f fd) (S : FnScope N ps (defScope st)) (hlen : ∀ ds Pp, R ds Pp → ds.length = ps.length)
    (hbody : ∀ (cdv : Value) (A : Around) (outer : List Env) (s : Shared) (H : Hp) (W : Wd) (ds : List PyData) (vs : List V) (Pp : RP) (Q : VK), MX (cxOf CX0 P w K mg base N qual (defScope st) f cdv A outer s H E0).nox k →
      WOk W H → DmAll K W vs ds → R ds Pp → (∀ d, Pp d → ∀ v W' H', WOk W' H' → Gr W W' H H' → Dm K W' v d → Q v H') →
      ∃ t, PSs (cxOf CX0 P w K mg base N qual (defScope st) f cdv A outer s H E0).nox (defBody st) t ∧ t { nx := fun _ H' => Q .non H', rt := Q } (L2.start N vs) H) : FnG P w K mg base (k + 1) f fd ps R := by
  obtain ⟨oc, od, kV, doc, pm, an, cdv, ct, osl, rfl, lk, hcd⟩ := F.ex
  refine ⟨hlen, fun A outer s H args us vs W ds Pp Q hr hg e0 hb r ok dms h hq => ?_⟩
  have hl : vs.length = ps.length := dms.length.trans (hlen _ _ h)
  have KX : K.In s.heap := e0.mod.kin.keeps fun b o e => (e0.bs b o e).1
  have lim : s.heap.NoLimit := e0.mod.nolimit.keeps fun b o e => (e0.bs b o e).1
  have hkind : ∀ y ∈ ps.zip us, (defScope st).names.lookup y.1 = some .local ∨ ((defScope st).names.lookup y.1 = some .cell ∧ ((cellsFrom (s.heap.objs.size + 1) (defScope st).names []).lookup y.1).isSome = true) := by
    rintro ⟨n, v⟩ hy
    have hn := S.par n (List.of_mem_zip hy).1
    exact hn.imp id fun q => ⟨q, PySem.W.cellsFrom_some _ _ _ (.inl q)⟩
  refine codeAny_call_function hr.depth (KX _ _ lk) rfl S.co S.gen rfl (PySem.W.codeRec_of KX hcd) (hb _ _ _ _ (wpAny_newFunctionEnv_cells S.kind hkind fun env he s1 x => ?_))
  subst he
  refine ⟨lim.keeps x.toInCall.keep, codeAny_func ?_⟩
  have I0 : L2.Inv (cxOf CX0 P w K mg base N qual (defScope st) f cdv A outer s H E0) [] (L2.start N vs) H s1 := inv_start S hr.hd e0 hl r x
  obtain ⟨t, body, ht⟩ := hbody cdv A outer s H W ds vs Pp Q ⟨rfl, hr.deeper _, hg, S.nd⟩ ok dms h hq
  refine wpAny_mono (body.nox.run [] s1 (L2.start N vs) H _ I0 ht) (fun fl s' hs => ?_) fun e s' hs => hs
  match fl, hs with
  | .ret u, ⟨v, σ', H', J, rv, q⟩ => exact ⟨v, H', J.os, J.bare, J.base, J.hok, rv, q⟩
  | .next, ⟨σ', H', J, q⟩ => exact ⟨.non, H', J.os, J.bare, J.base, J.hok, rfl, q⟩
  | .brk, ⟨_, _, _, q⟩ => exact q.elim
  | .cont, ⟨_, _, _, q⟩ => exact q.elim
/-- a def by its body's term -/
theorem def_g {q qual : Str} {st : Stmt} {f : Addr} {fd : FuncData} {N ps : List Str} {k : Nat} {b : RS} (F : Fun K q qual st f fd) (S : FnScope N ps (defScope st))
    (hbody : ∀ (cdv : Value) (A : Around) (outer : List Env) (s : Shared) (H : Hp) (B : Bs), MX (cxOf CX0 P w K mg base N qual (defScope st) f cdv A outer s H E0).nox k → PSs (cxOf CX0 P w K mg base N qual (defScope st) f cdv A outer s H E0).nox (defBody st) (tMS K B b)) :
    FnG P w K mg base (k + 1) f fd ps (rDef ps.length N.length b) := def_raw F S (fun ds Pp h => h.1) fun cdv A outer s H W ds vs Pp Q m ok dms h hq =>
  ⟨_, hbody cdv A outer s H ⟨W, H, W⟩ m, startE N.length ds, ⟨W, rel_start dms, ok, ⟨Gr.refl _ _, fun _ _ e => e, fun _ _ e => e⟩, newO_start⟩, _, h.2,
    ⟨fun e p σ' H' ⟨W', _, o', g', _⟩ => hq _ p _ W' H' o' g'.g .non, fun d p v W' H' o' g' dm => hq d p v W' H' o' g'.g dm, fun _ p => p.elim, fun _ p => p.elim⟩⟩
end

/-! ### the law's end -/
/-- from the heap behind the top: nothing is tracked but the script -/
theorem law_g {P : Program} {w : World} {K : PySem.W.Frag} {mg mb : Str → Option Value} {k : Nat} {fa a : Addr} {fd : FuncData} {x : Str} {R : KC} {s1 : Shared} {us : List Value} {ns : List Int}
    (hK : K.In s1.heap) (h1 : s1.heap.Ns mainGlobals mg) (h2 : s1.heap.Ns builtinsNs mb) (h3 : ∀ x : Str, x ≠ "__name__" → mb x = bootBuiltins x) (h4 : s1.heap.NoLimit) (h5 : s1.gens = #[])
    (h6 : s1.heap.get? a = some { cls := .type "list", data := .seq us.toArray }) (h7 : PyProof.Rows.IntsAre us ns) (h8 : ns.length ≤ sizeLine) (hr : Room k callerA)
    (F : ∀ base : Heap, K.In base → base.Ns mainGlobals mg → FnG P w K mg base k fa fd [x] R) (hb : ∀ (s : Shared) (u : Value), BindsTo s fd ⟨[u], []⟩ [(x, u)]) (hR : R [scrD ns] fun d => d = .bool true) :
    codeAny (model P w) callerA (.call (.ref fa) ⟨[.ref a], []⟩) (fun r s' => r = .ok (.ret (.bool true)) ∧ OldK s1.heap s'.heap ∧ s'.os = s1.os ∧ PyProof.Rows.AllBare s'.gens) s1 := by
  have ru := vals_of_ints h7
  have lu := h7.length
  have go : ∀ H : Hp, (∀ b u, H b = some u → b = a ∧ ∃ o, u = .frz o (.lst (ns.map V.int)) ∧ s1.heap.get? a = some o ∧ K.lookup a = none) → SqL K H a (ns.map V.int) → HOk P w H s1.heap →
      codeAny (model P w) callerA (.call (.ref fa) ⟨[.ref a], []⟩) (fun r s' => r = .ok (.ret (.bool true)) ∧ OldK s1.heap s'.heap ∧ s'.os = s1.os ∧ PyProof.Rows.AllBare s'.gens) s1 := by
    intro H only hs hok
    have keep : ∀ {b : Addr} {o : Obj}, s1.heap.get? b = some o → (b = a → H a = none) → (hidT s1.heap H).get? b = some o := fun {b o} e n => hidT_get e (by
      cases q : H b with
      | none => rfl
      | some u =>
        have z := (only b u q).1
        subst z
        rw [n rfl] at q; cases q)
    have isDict : ∀ {b : Addr} {m : Str → Option Value}, s1.heap.Ns b m → (hidT s1.heap H).Ns b m := by
      rintro b m ⟨o, es, ep, e, d, r⟩
      refine ⟨o, es, ep, keep e fun z => ?_, d, r⟩
      subst z
      rw [h6] at e
      cases e
      cases (show Data.seq us.toArray 0 = Data.dict es ep from d)
    have inK : K.In (hidT s1.heap H) := fun b o e => keep (hK b o e) fun z => by
      subst z
      cases q : H b with
      | none => rfl
      | some u =>
        obtain ⟨_, _, _, _, n⟩ := only b u q
        rw [n] at e; cases e
    have mod : Mod K mg (hidT s1.heap H) := by
      refine ⟨inK, isDict h1, ⟨mb, isDict h2, h3⟩, ?_⟩
      obtain ⟨mc, q1, q2⟩ := h4
      exact ⟨mc, isDict q1, q2⟩
    have e0 : Env0 P w K mg (hidT s1.heap H) callerA [] s1 H := ⟨rfl, mod, fun b o e => of_hidT e, Nat.le_of_eq (hidT_size _ _), trivial, fun b z => absurd (show b ∈ ([] : List Addr) from z) (by simp), hok, .of_eq h5⟩
    have W0 : WOk ⟨H, fun _ => none⟩ H := ⟨fun _ _ e => e, (fun _ _ e => nomatch e), (fun _ _ _ e => nomatch e)⟩
    refine codeAny_mono ((F _ inK (isDict h1)).run callerA [] s1 H ⟨[.ref a], []⟩ [.ref a] [.ref a] ⟨H, fun _ => none⟩ [scrD ns] _ (fun v _ => v = .bl true) hr rfl e0 (hb s1 (.ref a)) (.cons rfl .nil) W0 (.cons (.scr hs) .nil) hR
      (fun d pd v W' H' _ _ dm => by
        have pd : d = .bool true := pd
        subst pd
        cases dm
        rfl)) fun r s' h => ?_
    match r, h with
    | .ok (.ret u), ⟨v, H', os, bare, un, hok', rv, q⟩ =>
      have q : v = .bl true := q
      subst q
      obtain rfl : u = Value.bool true := rv
      refine ⟨rfl, OldK.of_keep fun b o e => ?_, os, bare⟩
      cases q : H b with
      | none => exact un.keep b o e q (fun z => absurd (show b ∈ ([] : List Addr) from z) (by simp)) (by simp)
      | some u =>
        obtain ⟨rfl, ob, rfl, e1, _⟩ := only b u q
        have e2 := (hok' b _ (un.frzs b ob _ q)).1
        rw [e] at e1
        cases e1
        exact e2
  cases hk : K.lookup a with
  | some o =>
    have e := hK a o hk
    rw [h6] at e
    cases e
    exact go (fun _ => none) (fun _ _ z => nomatch z) (.inr ⟨_, us.toArray, _, hk, rfl, rfl, rfl, by rw [List.size_toArray, lu]; exact h8, by simpa using ru⟩) fun b u z => nomatch z
  | none =>
    let fz : HO := .frz { cls := .type "list", data := .seq us.toArray } (.lst (ns.map V.int))
    have at_a : ∀ b u, (if b = a then some fz else none) = some u → b = a ∧ u = fz := fun b u z => by
      by_cases hb : b = a
      · rw [if_pos hb] at z
        exact ⟨hb, (Option.some.inj z).symm⟩
      · rw [if_neg hb] at z; cases z
    refine go (fun b => if b = a then some fz else none) (fun b u z => ?_) (.inl (.inr ⟨_, if_pos rfl⟩)) fun b u z => ?_
    · obtain ⟨rfl, rfl⟩ := at_a b u z
      exact ⟨rfl, _, rfl, h6, hk⟩
    · obtain ⟨rfl, rfl⟩ := at_a b u z
      exact ⟨h6, by rw [List.length_map]; exact h8, us, _, ru, h6⟩
theorem walk_g {l : PySem.W.OpenLaw} {n k : Nat} {q : Program} {loose : List Str} {XP : (Str → Option Value) → Heap → Prop} {YP : World → Heap → Prop} {d : DefRec} {K : Params → PySem.W.Frag} {R : KC} {x : Str}
    (hn : l.most = some n) (hn2 : n ≤ sizeLine) (hdf : d.params.defaults = []) (hr : Room k callerA) (hY : ∀ (w : World) (h : Heap), YP w h → (K w.params).In h)
    (F : ∀ (w : World) (mg : Str → Option Value) (fa : Addr) (h : Heap), (K w.params).In h → h.Ns mainGlobals mg → mg d.name = some (.ref fa) →
      ∃ fd : FuncData, (∀ (s : Shared) (u : Value), BindsTo s fd ⟨[u], []⟩ [(x, u)]) ∧ ∀ base : Heap, (K w.params).In base → base.Ns mainGlobals mg → FnG l.prog w (K w.params) mg base k fa fd [x] R)
    (hR : ∀ ns : List Int, ns.length ≤ n → R [scrD ns] fun d => d = .bool true) : PySem.W.WalkO q loose XP YP l.row.toRowW d [] (fun f vs => PySem.call f vs) := by
  refine Att.attach_call hn hdf fun w s₀ s₁ mg mb fa o pm cd doc a vs ns G Y ho hd hcd hmg hobj hints hlen hg => ?_
  have hK := hY w _ Y
  obtain ⟨fd, hb, hF⟩ := F w mg fa _ hK G.T.g hmg
  exact law_g hK G.T.g G.T.b G.T.builtins G.T.nolimit hg hobj hints (Nat.le_trans hlen hn2) hr hF hb (hR ns hlen)
end MM
set_option Elab.async false
set_option linter.all false
set_option maxRecDepth 100000
set_option maxHeartbeats 2000000
/-! M7: the sources of drawn numbers: what opens one, what picks of one -/
namespace MM
open PySem PySem.Spec L2
def srcK (c : Addr) (l m t : Int) : List (Key × V) := [(.inr "cells", .ref c), (.inr "left", .int l), (.inr "mixed", .int m), (.inr "turn", .int t)]
section
variable {c : Addr} {l m t x : Int}
theorem src_cells : valV (srcK c l m t) (.inr "cells") = some (.ref c) := by with_unfolding_all rfl
theorem src_left : valV (srcK c l m t) (.inr "left") = some (.int l) := by with_unfolding_all rfl
theorem src_mixed : valV (srcK c l m t) (.inr "mixed") = some (.int m) := by with_unfolding_all rfl
theorem src_turn : valV (srcK c l m t) (.inr "turn") = some (.int t) := by with_unfolding_all rfl
theorem put_left : putK (srcK c l m t) (.inr "left") (.int x) = srcK c x m t := by with_unfolding_all rfl
theorem put_mixed : putK (srcK c l m t) (.inr "mixed") (.int x) = srcK c l x t := by with_unfolding_all rfl
theorem put_turn : putK (srcK c l m t) (.inr "turn") (.int x) = srcK c l m x := by with_unfolding_all rfl
end
/-- a source at a, its cells at c; all else stands as in H0 -/
structure Sr (H0 : Hp) (a c : Addr) (l m t : Int) (ns : List Int) (H : Hp) : Prop where
  d : H a = some (.dK (srcK c l m t))
  l0 : 0 ≤ l
  m0 : 0 ≤ m
  t0 : 0 ≤ t
  cs : H c = some (.lst (ns.map V.int))
  nn : ∀ n ∈ ns, 0 ≤ n
  e : ∀ b, b ≠ a → b ≠ c → H b = H0 b
section
variable {H0 H : Hp} {a c : Addr} {l m t : Int} {ns : List Int}
theorem Sr.ne (s : Sr H0 a c l m t ns H) : c ≠ a := fun z => by
  have h1 := s.cs
  rw [z, s.d] at h1
  cases h1
theorem Sr.get (s : Sr H0 a c l m t ns H) {k : Str} {v : V} (h : valV (srcK c l m t) (.inr k) = some v) : DGet H a (.str k) (some v) := by
  have := DGet.k (k := .inr k) s.d
  rw [h] at this
  exact this
theorem Sr.put (s : Sr H0 a c l m t ns H) {k : Str} {l' m' t' x : Int} (h : putK (srcK c l m t) (.inr k) (.int x) = srcK c l' m' t') (h1 : 0 ≤ l') (h2 : 0 ≤ m') (h3 : 0 ≤ t') :
    DPut H a (.str k) (.int x) (upd H a (.dK (srcK c l' m' t'))) ∧ Sr H0 a c l' m' t' ns (upd H a (.dK (srcK c l' m' t'))) := by
  refine ⟨?_, upd_same, h1, h2, h3, by rw [upd_ne s.ne]; exact s.cs, s.nn, fun b hb hc => by rw [upd_ne hb]; exact s.e b hb hc⟩
  have := DPut.k (k := .inr k) (v := .int x) s.d (by show 4 < sizeLine; decide)
  rw [h] at this
  exact this
theorem Sr.pop (s : Sr H0 a c l m t ns H) (h : ns ≠ []) : ∃ y, (ns.map V.int)[(ns.map V.int).length - 1]? = some (.int y) ∧ 0 ≤ y ∧ Sr H0 a c l m t ns.dropLast (upd H c (.lst (ns.map V.int).dropLast)) := by
  have hl : 0 < ns.length := List.length_pos_iff.mpr h
  refine ⟨ns[ns.length - 1], ?_, s.nn _ (List.getElem_mem _), by rw [upd_ne (Ne.symm s.ne)]; exact s.d, s.l0, s.m0, s.t0, by rw [upd_same, List.map_dropLast], fun n hn => s.nn n (List.dropLast_subset _ hn), fun b hb hc => by rw [upd_ne hc]; exact s.e b hb hc⟩
  rw [List.length_map, List.getElem?_map, List.getElem?_eq_getElem (by omega)]
  rfl
theorem Sr.of {W : Wd} (ok : WOk W H) (h : W.S a = some c) : ∃ l m t ns, Sr H a c l m t ns H := by
  obtain ⟨⟨l, m, t, ns, h1, h2, h3, h4, h5, h6⟩, _, _⟩ := ok.src a c h
  exact ⟨l, m, t, ns, h1, h2, h3, h4, h5, h6, fun _ _ _ => rfl⟩
theorem Sr.back {W : Wd} (ok : WOk W H0) (h : W.S a = some c) (s : Sr H0 a c l m t ns H) : WOk W H ∧ Gr W W H0 H := by
  obtain ⟨s0, f1, f2⟩ := ok.src a c h
  obtain ⟨l0, m0, t0, ns0, g1, _, _, _, g2, _⟩ := s0
  have ty : ∀ b d, W.S b = some d → b ≠ a → b ≠ c ∧ d ≠ a ∧ d ≠ c := fun b d e hb => by
    obtain ⟨⟨l1, m1, t1, ns1, k1, _, _, _, k2, _⟩, _, _⟩ := ok.src b d e
    refine ⟨fun z => ?_, fun z => ?_, fun z => ?_⟩
    · subst z; rw [g2] at k1; cases k1
    · subst z; rw [g1] at k2; cases k2
    · subst z; exact hb (ok.inj b a d e h)
  refine ⟨⟨fun b o e => ?_, fun b d e => ?_, ok.inj⟩, ⟨fun _ _ e => e, fun _ _ e => e, fun b o e n => ?_, fun b o e => ?_, fun _ _ _ e => e, fun _ _ _ e => e⟩⟩
  · rw [s.e b (fun z => by subst z; rw [f1] at e; cases e) (fun z => by subst z; rw [f2] at e; cases e)]
    exact ok.fh b o e
  · by_cases hb : b = a
    · subst hb
      rw [h] at e; cases e
      exact ⟨⟨l, m, t, ns, s.d, s.l0, s.m0, s.t0, s.cs, s.nn⟩, f1, f2⟩
    · obtain ⟨k1, k2, k3⟩ := ty b d e hb
      obtain ⟨⟨l1, m1, t1, ns1, q1, q2, q3, q4, q5, q6⟩, q7, q8⟩ := ok.src b d e
      exact ⟨⟨l1, m1, t1, ns1, by rw [s.e b hb k1]; exact q1, q2, q3, q4, by rw [s.e d k2 k3]; exact q5, q6⟩, q7, q8⟩
  · rw [s.e b (fun z => n ⟨a, c, h, .inl z⟩) (fun z => n ⟨a, c, h, .inr z⟩)]
    exact e
  · by_cases hb : b = a
    · exact ⟨_, by rw [hb]; exact s.d⟩
    · by_cases hc : b = c
      · exact ⟨_, by rw [hc]; exact s.cs⟩
      · exact ⟨o, by rw [s.e b hb hc]; exact e⟩
end
/-- _law_pick: any number from 0 on below n; 0 where n is below 2 -/
def SPick : KC := fun ds P => ∃ n : Int, ds = [srcD, .int n] ∧ n.natAbs.log2 < 9000 ∧ ∀ r : Int, 0 ≤ r → r < max n 1 → P (.int r)
theorem SPick.len {ds : List PyData} {P : RP} (h : SPick ds P) : ds.length = ["source", "most"].length := by
  obtain ⟨n, rfl, _⟩ := h
  rfl
def SOpen : KC := fun ds P => ∃ ns : List Int, ds = [scrD ns] ∧ ns.length ≤ 63 ∧ P srcD
section
variable (K : PySem.W.Frag)
abbrev qI (i : Int) : TE := tC (.int i)
abbrev qS (s : Str) : TE := tC (.str s)
abbrev qG (s : Str) : TE := tDGet (tVar 0) (qS s)
abbrev qInt (t : TE) : TE := tCB (fun xs H Q => (∃ i, xs = [.int i] ∧ Q (.int i) H) ∨ ∃ k, xs = [.bl k] ∧ Q (.int (if k then 1 else 0)) H) (tCons t tNil)
abbrev qAdd (a b : TE) : TE := tOp (rI0 fun i j => .int (i + j)) a b
abbrev qMul (a b : TE) : TE := tOp (rI CMul fun i j => .int (i * j)) a b
abbrev qMod (a b : TE) : TE := tOp (rI (fun _ j => 0 < j) fun i j => .int (i % j)) a b
abbrev qDiv (a b : TE) : TE := tOp (rI CDivW fun i j => .int (i / j)) a b
abbrev qLt (a b : TE) : TT := tTest (tOp (rI0 fun i j => .bl (decide (i < j))) a b)
abbrev qGt (a b : TE) : TT := tTest (tOp (rI0 fun i j => .bl (decide (j < i))) a b)
abbrev qLen (a : TE) : TE := tCB (fun xs H Q => ∃ p ys, xs = [.ref p] ∧ (SqL K H p ys ∨ SqT K H p ys) ∧ Q (.int ys.length) H) (tCons a tNil)
abbrev qMax (a b : TE) : TE := tCB (fun xs H Q => ∃ i j, xs = [.int i, .int j] ∧ Q (.int (if j > i then j else i)) H) (tCons a (tCons b tNil))
abbrev qPut (s : Str) (v : TE) : TS := sDPut (tVar 0) (qS s) v
abbrev qSet (i : Nat) (v : TE) : TS := tAsg v (gName i)
/-- source, most, cells, others, lap, stirred -/
def qPickA : TS := (tSeq (tIfS (qLt (tVar 1) (qI 2)) (tRet (qI 0)) tNext)
  (tSeq (qSet 2 (qG "cells"))
  (tSeq (tWhile (tAnd (qLt (qG "left") (qI 2)) (qGt (qLen K (tVar 2)) (qI 0))) (qPut "left" (tBM0 K "list" rPop (tVar 2))))
  (tSeq (qSet 3 (qG "left"))
  (tSeq (tIfS (qGt (tVar 3) (qI 1)) (tSeq (qPut "left" (qDiv (tVar 3) (tVar 1))) (tRet (qMod (qInt (tVar 3)) (tVar 1)))) tNext)
  (tSeq (qPut "turn" (qAdd (qG "turn") (qI 1)))
  (tSeq (qSet 4 (qG "turn"))
  (tSeq (qSet 5 (qMod (qInt (qAdd (qG "mixed") (qMul (tVar 4) (qI 104729)))) (qI 998244353)))
  (tSeq (qSet 5 (qMod (qInt (qAdd (qMul (tVar 5) (tVar 5)) (qMul (tVar 4) (qI 17)))) (qI 2147483647)))
  (tRet (qMod (qInt (qDiv (tVar 5) (qI 16))) (tVar 1))))))))))))
end
theorem pickA_reads {K : PySem.W.Frag} {H : Hp} {W : Wd} {ds : List PyData} {vs : List V} {Pp : RP} {Q : VK} (ok : WOk W H) (dms : DmAll K W vs ds) (h : SPick ds Pp) (hq : ∀ d, Pp d → ∀ v W' H', WOk W' H' → Gr W W' H H' → Dm K W' v d → Q v H') :
    qPickA K { nx := fun _ H' => Q .non H', rt := Q } (L2.start ["source", "most", "cells", "others", "lap", "stirred"] vs) H := by
  obtain ⟨n, rfl, hn, hP⟩ := h
  match vs, dms with
  | [_, _], .cons (.src (a := a) (c := c) hS) (.cons (.int _) .nil) =>
    obtain ⟨l, m, t, ns, s⟩ := Sr.of ok hS
    have fin : ∀ (r : Int) {l m t : Int} {ns : List Int} {H' : Hp}, 0 ≤ r → r < max n 1 → Sr H a c l m t ns H' → Q (.int r) H' := fun r l m t ns H' h0 h1 s => by
      obtain ⟨o, g⟩ := s.back ok hS
      exact hq _ (hP r h0 h1) _ W H' o g (.int _)
    have hc16 : CDivW 0 16 := ⟨by decide, by decide⟩
    refine ⟨_, rfl, _, _, rfl, rfl, _, rfl, ?_⟩
    by_cases h2 : n < 2
    · rw [decide_eq_true h2]
      exact fin 0 (by omega) (by omega) s
    rw [decide_eq_false h2]
    have h2 : 2 ≤ n := by omega
    have hmax : max n 1 = n := by omega
    rw [hmax] at fin
    have hdiv : ∀ x, CDivW x n := fun x => ⟨by omega, hn⟩
    refine iteF ⟨_, rfl, a, _, rfl, s.get src_cells, ?_⟩
    -- the cells are taken until one is more than 1
    show tWhile _ _ _ _ H
    refine ⟨fun k σ H' => σ = [some (.ref a), some (.int n), some (.ref c), none, none, none] ∧ ∃ l ns, Sr H a c l m t ns H' ∧ k = ns.length, ⟨_, rfl, l, ns, s, rfl⟩, ?_⟩
    rintro k σ H' ⟨rfl, l, ns, s, rfl⟩
    refine ⟨_, rfl, a, _, rfl, s.get src_left, l, 2, rfl, rfl, _, rfl, ?_⟩
    have after : ∀ {l m t : Int} {ns : List Int} {H' : Hp}, Sr H a c l m t ns H' → (tSeq (qSet 3 (qG "left"))
  (tSeq (tIfS (qGt (tVar 3) (qI 1)) (tSeq (qPut "left" (qDiv (tVar 3) (tVar 1))) (tRet (qMod (qInt (tVar 3)) (tVar 1)))) tNext)
  (tSeq (qPut "turn" (qAdd (qG "turn") (qI 1)))
  (tSeq (qSet 4 (qG "turn"))
  (tSeq (qSet 5 (qMod (qInt (qAdd (qG "mixed") (qMul (tVar 4) (qI 104729)))) (qI 998244353)))
  (tSeq (qSet 5 (qMod (qInt (qAdd (qMul (tVar 5) (tVar 5)) (qMul (tVar 4) (qI 17)))) (qI 2147483647)))
  (tRet (qMod (qInt (qDiv (tVar 5) (qI 16))) (tVar 1))))))))) { nx := fun _ H' => Q .non H', rt := Q } [some (.ref a), some (.int n), some (.ref c), none, none, none] H' := fun {l m t ns H'} s => by
      refine ⟨_, rfl, a, _, rfl, s.get src_left, ?_⟩
      refine ⟨_, rfl, l, 1, rfl, rfl, _, rfl, ?_⟩
      by_cases h1 : 1 < l
      · rw [decide_eq_true h1]
        obtain ⟨p1, p2⟩ := s.put (x := l / n) put_left (Int.ediv_nonneg s.l0 (by omega)) s.m0 s.t0
        refine iteT ⟨_, rfl, _, rfl, l, n, rfl, rfl, hdiv l, _, rfl, a, _, rfl, p1, ?_⟩
        refine ⟨_, rfl, .inl ⟨l, rfl, _, rfl, l, n, rfl, rfl, by omega, ?_⟩⟩
        exact fin _ (Int.emod_nonneg _ (by omega)) (Int.emod_lt_of_pos _ (by omega)) p2
      · rw [decide_eq_false h1]
        obtain ⟨p1, p2⟩ := s.put (x := t + 1) put_turn s.l0 s.m0 (by have := s.t0; omega)
        refine iteF ⟨_, rfl, a, _, rfl, s.get src_turn, t, 1, rfl, rfl, _, rfl, a, _, rfl, p1, ?_⟩
        refine ⟨_, rfl, a, _, rfl, p2.get src_turn, ?_⟩
        have key : ∀ x : Int, 0 ≤ x → x < 998244353 → (tSeq (qSet 5 (qMod (qInt (qAdd (qMul (tVar 5) (tVar 5)) (qMul (tVar 4) (qI 17)))) (qI 2147483647)))
  (tRet (qMod (qInt (qDiv (tVar 5) (qI 16))) (tVar 1)))) { nx := fun _ H' => Q .non H', rt := Q } [some (.ref a), some (.int n), some (.ref c), some (.int l), some (.int (t + 1)), some (.int x)] (upd H' a (.dK (srcK c l m (t + 1)))) := fun x hx0 hx1 => by
          refine ⟨_, rfl, _, rfl, x, x, rfl, rfl, .inl ⟨by omega, by omega⟩, _, rfl, t + 1, 17, rfl, rfl, .inr ⟨by decide, by decide⟩, x * x, (t + 1) * 17, rfl, rfl, .inl ⟨_, rfl, _, 2147483647, rfl, rfl, (by show (0 : Int) < 2147483647; decide), ?_⟩⟩
          refine ⟨_, rfl, (x * x + (t + 1) * 17) % 2147483647, 16, rfl, rfl, ⟨by decide, by decide⟩, .inl ⟨_, rfl, _, rfl, _, n, rfl, rfl, by omega, ?_⟩⟩
          exact fin _ (Int.emod_nonneg _ (by omega)) (Int.emod_lt_of_pos _ (by omega)) p2
        refine ⟨_, rfl, a, _, rfl, p2.get src_mixed, _, rfl, t + 1, 104729, rfl, rfl, .inr ⟨by decide, by decide⟩, m, (t + 1) * 104729, rfl, rfl, .inl ⟨_, rfl, _, 998244353, rfl, rfl, (by show (0 : Int) < 998244353; decide), ?_⟩⟩
        exact key _ (Int.emod_nonneg _ (by decide)) (Int.emod_lt_of_pos _ (by decide))
    by_cases h1 : l < 2
    · rw [decide_eq_true h1]
      refine iteT ⟨_, rfl, c, _, rfl, .inl (SqL.of s.cs), _, 0, rfl, rfl, _, rfl, ?_⟩
      by_cases h0 : (0 : Int) < ((ns.map V.int).length : Int)
      · rw [decide_eq_true h0]
        have hne : ns ≠ [] := fun z => by subst z; simp at h0
        obtain ⟨y, e1, y0, p1⟩ := s.pop hne
        obtain ⟨p2, p3⟩ := p1.put (x := y) put_left y0 p1.m0 p1.t0
        refine iteT ⟨fun σ' H' => σ' = [some (.ref a), some (.int n), some (.ref c), none, none, none] ∧ ∃ l ns', Sr H a c l m t ns' H' ∧ ns'.length < ns.length, ?_, ?_⟩
        · rintro σ' H' ⟨rfl, l', ns', s', hl⟩
          exact ⟨_, hl, rfl, l', ns', s', rfl⟩
        · refine ⟨_, rfl, .inl ⟨rfl, _, SqL.of s.cs⟩, c, _, _, rfl, rfl, s.cs, e1, _, rfl, a, _, rfl, p2, rfl, y, _, p3, ?_⟩
          have := List.length_pos_iff.mpr hne
          rw [List.length_dropLast]
          omega
      · rw [decide_eq_false h0]
        exact iteF (after s)
    · rw [decide_eq_false h1]
      exact iteF (after s)
/-- source, many, left, mixed -/
def qPickB (K : PySem.W.Frag) : TS := (tSeq (tWhile (tAnd (qGt (tVar 1) (qI 1)) (tAnd (qLt (qG "left") (qI 2)) (qGt (qLen K (qG "cells")) (qI 0)))) (qPut "left" (tBM0 K "list" rPop (qG "cells"))))
  (tSeq (qSet 2 (qG "left"))
  (tSeq (tIfS (tOr (qLt (tVar 1) (qI 2)) (qGt (tVar 2) (qI 1))) (tSeq (qPut "left" (qDiv (tVar 2) (qMax (qI 1) (tVar 1)))) (tRet (qMod (qInt (tVar 2)) (qMax (qI 1) (tVar 1))))) tNext)
  (tSeq (qPut "turn" (qAdd (qG "turn") (qI 1)))
  (tSeq (qSet 3 (qMod (qInt (qAdd (qG "mixed") (qMul (qG "turn") (qI 104729)))) (qI 998244353)))
  (tSeq (qSet 3 (qMod (qInt (qAdd (qMul (tVar 3) (tVar 3)) (qMul (qG "turn") (qI 17)))) (qI 2147483647)))
  (tSeq (qPut "mixed" (tVar 3))
  (tRet (qMod (qInt (qDiv (tVar 3) (qI 16))) (tVar 1))))))))))
theorem pickB_reads {K : PySem.W.Frag} {H : Hp} {W : Wd} {ds : List PyData} {vs : List V} {Pp : RP} {Q : VK} (ok : WOk W H) (dms : DmAll K W vs ds) (h : SPick ds Pp) (hq : ∀ d, Pp d → ∀ v W' H', WOk W' H' → Gr W W' H H' → Dm K W' v d → Q v H') :
    qPickB K { nx := fun _ H' => Q .non H', rt := Q } (L2.start ["source", "many", "left", "mixed"] vs) H := by
  obtain ⟨n, rfl, hn, hP⟩ := h
  match vs, dms with
  | [_, _], .cons (.src (a := a) (c := c) hS) (.cons (.int _) .nil) =>
    obtain ⟨l, m, t, ns, s⟩ := Sr.of ok hS
    have fin : ∀ (r : Int) {l m t : Int} {ns : List Int} {H' : Hp}, 0 ≤ r → r < max n 1 → Sr H a c l m t ns H' → Q (.int r) H' := fun r l m t ns H' h0 h1 s => by
      obtain ⟨o, g⟩ := s.back ok hS
      exact hq _ (hP r h0 h1) _ W H' o g (.int _)
    have hmx : (if n > 1 then n else 1) = max n 1 := by split <;> omega
    have hdiv : ∀ x, CDivW x (max n 1) := fun x => ⟨by omega, by
      by_cases h : 1 < n
      · rw [show max n 1 = n by omega]; exact hn
      · rw [show max n 1 = 1 by omega]; decide⟩
    have after : ∀ {l m t : Int} {ns : List Int} {H' : Hp}, Sr H a c l m t ns H' → (tSeq (qSet 2 (qG "left"))
  (tSeq (tIfS (tOr (qLt (tVar 1) (qI 2)) (qGt (tVar 2) (qI 1))) (tSeq (qPut "left" (qDiv (tVar 2) (qMax (qI 1) (tVar 1)))) (tRet (qMod (qInt (tVar 2)) (qMax (qI 1) (tVar 1))))) tNext)
  (tSeq (qPut "turn" (qAdd (qG "turn") (qI 1)))
  (tSeq (qSet 3 (qMod (qInt (qAdd (qG "mixed") (qMul (qG "turn") (qI 104729)))) (qI 998244353)))
  (tSeq (qSet 3 (qMod (qInt (qAdd (qMul (tVar 3) (tVar 3)) (qMul (qG "turn") (qI 17)))) (qI 2147483647)))
  (tSeq (qPut "mixed" (tVar 3))
  (tRet (qMod (qInt (qDiv (tVar 3) (qI 16))) (tVar 1))))))))) { nx := fun _ H' => Q .non H', rt := Q } [some (.ref a), some (.int n), none, none] H' := fun {l m t ns H'} s => by
      refine ⟨_, rfl, a, _, rfl, s.get src_left, ?_⟩
      have less : ∀ {A : Prop} (_ : A), A := fun h => h
      have out : (tSeq (qPut "left" (qDiv (tVar 2) (qMax (qI 1) (tVar 1)))) (tRet (qMod (qInt (tVar 2)) (qMax (qI 1) (tVar 1))))) { nx := fun _ H' => Q .non H', rt := Q } [some (.ref a), some (.int n), some (.int l), none] H' := by
        obtain ⟨p1, p2⟩ := s.put (x := l / max n 1) put_left (Int.ediv_nonneg s.l0 (by omega)) s.m0 s.t0
        refine ⟨_, rfl, _, rfl, 1, n, rfl, ?_⟩
        rw [hmx]
        refine ⟨l, max n 1, rfl, rfl, hdiv l, _, rfl, a, _, rfl, p1, ?_⟩
        refine ⟨_, rfl, .inl ⟨l, rfl, _, rfl, 1, n, rfl, ?_⟩⟩
        rw [hmx]
        refine ⟨l, max n 1, rfl, rfl, (by omega), ?_⟩
        exact fin _ (Int.emod_nonneg _ (by omega)) (Int.emod_lt_of_pos _ (by omega)) p2
      refine ⟨_, rfl, n, 2, rfl, rfl, _, rfl, ?_⟩
      by_cases h2 : n < 2
      · rw [decide_eq_true h2]
        exact iteT (iteT out)
      rw [decide_eq_false h2]
      refine iteF ⟨_, rfl, l, 1, rfl, rfl, _, rfl, ?_⟩
      by_cases h1 : 1 < l
      · rw [decide_eq_true h1]
        exact iteT out
      rw [decide_eq_false h1]
      have hmax : max n 1 = n := by omega
      rw [hmax] at fin
      obtain ⟨p1, p2⟩ := s.put (x := t + 1) put_turn s.l0 s.m0 (by have := s.t0; omega)
      refine iteF ⟨_, rfl, a, _, rfl, s.get src_turn, t, 1, rfl, rfl, _, rfl, a, _, rfl, p1, ?_⟩
      have key : ∀ x : Int, 0 ≤ x → x < 998244353 → (tSeq (qSet 3 (qMod (qInt (qAdd (qMul (tVar 3) (tVar 3)) (qMul (qG "turn") (qI 17)))) (qI 2147483647)))
  (tSeq (qPut "mixed" (tVar 3))
  (tRet (qMod (qInt (qDiv (tVar 3) (qI 16))) (tVar 1))))) { nx := fun _ H' => Q .non H', rt := Q } [some (.ref a), some (.int n), some (.int l), some (.int x)] (upd H' a (.dK (srcK c l m (t + 1)))) := fun x hx0 hx1 => by
        refine ⟨_, rfl, _, rfl, x, x, rfl, rfl, .inl ⟨by omega, by omega⟩, _, rfl, a, _, rfl, p2.get src_turn, t + 1, 17, rfl, rfl, .inr ⟨by decide, by decide⟩, x * x, (t + 1) * 17, rfl, rfl, .inl ⟨_, rfl, _, 2147483647, rfl, rfl, (by show (0 : Int) < 2147483647; decide), ?_⟩⟩
        have key2 : ∀ y : Int, 0 ≤ y → (tSeq (qPut "mixed" (tVar 3))
  (tRet (qMod (qInt (qDiv (tVar 3) (qI 16))) (tVar 1)))) { nx := fun _ H' => Q .non H', rt := Q } [some (.ref a), some (.int n), some (.int l), some (.int y)] (upd H' a (.dK (srcK c l m (t + 1)))) := fun y hy => by
          obtain ⟨p3, p4⟩ := p2.put (x := y) put_mixed p2.l0 hy p2.t0
          refine ⟨_, rfl, _, rfl, a, _, rfl, p3, ?_⟩
          refine ⟨_, rfl, y, 16, rfl, rfl, ⟨by decide, by decide⟩, .inl ⟨_, rfl, _, rfl, _, n, rfl, rfl, by omega, ?_⟩⟩
          exact fin _ (Int.emod_nonneg _ (by omega)) (Int.emod_lt_of_pos _ (by omega)) p4
        exact key2 _ (Int.emod_nonneg _ (by decide))
      refine ⟨_, rfl, a, _, rfl, p2.get src_mixed, _, rfl, a, _, rfl, p2.get src_turn, t + 1, 104729, rfl, rfl, .inr ⟨by decide, by decide⟩, m, (t + 1) * 104729, rfl, rfl, .inl ⟨_, rfl, _, 998244353, rfl, rfl, (by show (0 : Int) < 998244353; decide), ?_⟩⟩
      exact key _ (Int.emod_nonneg _ (by decide)) (Int.emod_lt_of_pos _ (by decide))
    show tWhile _ _ _ _ H
    refine ⟨fun k σ H' => σ = [some (.ref a), some (.int n), none, none] ∧ ∃ l ns, Sr H a c l m t ns H' ∧ k = ns.length, ⟨_, rfl, l, ns, s, rfl⟩, ?_⟩
    rintro k σ H' ⟨rfl, l, ns, s, rfl⟩
    refine ⟨_, rfl, n, 1, rfl, rfl, _, rfl, ?_⟩
    by_cases hn1 : 1 < n
    · rw [decide_eq_true hn1]
      refine iteT ⟨_, rfl, a, _, rfl, s.get src_left, l, 2, rfl, rfl, _, rfl, ?_⟩
      by_cases h1 : l < 2
      · rw [decide_eq_true h1]
        refine iteT ⟨_, rfl, a, _, rfl, s.get src_cells, c, _, rfl, .inl (SqL.of s.cs), _, 0, rfl, rfl, _, rfl, ?_⟩
        by_cases h0 : (0 : Int) < ((ns.map V.int).length : Int)
        · rw [decide_eq_true h0]
          have hne : ns ≠ [] := fun z => by subst z; simp at h0
          obtain ⟨y, e1, y0, p1⟩ := s.pop hne
          obtain ⟨p2, p3⟩ := p1.put (x := y) put_left y0 p1.m0 p1.t0
          refine iteT ⟨fun σ' H' => σ' = [some (.ref a), some (.int n), none, none] ∧ ∃ l ns', Sr H a c l m t ns' H' ∧ ns'.length < ns.length, ?_, ?_⟩
          · rintro σ' H' ⟨rfl, l', ns', s', hl⟩
            exact ⟨_, hl, rfl, l', ns', s', rfl⟩
          · refine ⟨_, rfl, a, _, rfl, s.get src_cells, .inl ⟨rfl, _, SqL.of s.cs⟩, c, _, _, rfl, rfl, s.cs, e1, _, rfl, a, _, rfl, p2, rfl, y, _, p3, ?_⟩
            have := List.length_pos_iff.mpr hne
            rw [List.length_dropLast]
            omega
        · rw [decide_eq_false h0]
          exact iteF (after s)
      · rw [decide_eq_false h1]
        exact iteF (after s)
    · rw [decide_eq_false hn1]
      exact iteF (after s)

theorem lay_src {W : Wd} {H H1 : Hp} {p c : Addr} {m : Int} {ns : List Int} (ok : WOk W H) (hc : H c = none) (hp : H p = none) (hcp : c ≠ p) (e1 : H1 p = some (.dK (srcK c 1 m 0))) (e2 : H1 c = some (.lst (ns.map V.int))) (e3 : ∀ b o, H b = some o → H1 b = some o) (hm : 0 ≤ m) (hn : ∀ n ∈ ns, 0 ≤ n) :
    WOk ⟨W.F, fun b => if b = p then some c else W.S b⟩ H1 ∧ Gr W ⟨W.F, fun b => if b = p then some c else W.S b⟩ H H1 := by
  have Fn : ∀ {x : Addr}, H x = none → W.F x = none := fun {x} h => by
    cases e : W.F x with
    | none => rfl
    | some u => rw [ok.fh _ _ e] at h; cases h
  have Sn : W.S p = none := by
    cases e : W.S p with
    | none => rfl
    | some d =>
      obtain ⟨⟨l, m, t, ns, q1, _⟩, _⟩ := ok.src p d e
      rw [hp] at q1; cases q1
  refine ⟨⟨fun a o e => e3 _ _ (ok.fh a o e), fun a d e => ?_, fun a b d ea eb => ?_⟩, ⟨fun _ _ e => e, fun a d e => ?_, fun a o e _ => e3 _ _ e, fun a o e => ⟨o, e3 _ _ e⟩, fun _ _ _ e => e, fun a o e n => ?_⟩⟩
  · have e : (if a = p then some c else W.S a) = some d := e
    by_cases h : a = p
    · rw [if_pos h] at e
      cases e
      subst h
      exact ⟨⟨1, m, 0, ns, e1, by decide, hm, by decide, e2, hn⟩, Fn hp, Fn hc⟩
    · rw [if_neg h] at e
      obtain ⟨⟨l1, m1, t1, ns1, q1, q2, q3, q4, q5, q6⟩, q7, q8⟩ := ok.src a d e
      exact ⟨⟨l1, m1, t1, ns1, e3 _ _ q1, q2, q3, q4, e3 _ _ q5, q6⟩, q7, q8⟩
  · have ea : (if a = p then some c else W.S a) = some d := ea
    have eb : (if b = p then some c else W.S b) = some d := eb
    have no : ∀ {x : Addr}, W.S x = some c → False := fun {x} e => by
      obtain ⟨⟨l1, m1, t1, ns1, q1, q2, q3, q4, q5, q6⟩, q7, q8⟩ := ok.src x c e
      rw [hc] at q5; cases q5
    by_cases ha : a = p <;> by_cases hb : b = p
    · rw [ha, hb]
    · rw [if_pos ha] at ea
      rw [if_neg hb] at eb
      cases ea
      exact (no eb).elim
    · rw [if_neg ha] at ea
      rw [if_pos hb] at eb
      cases eb
      exact (no ea).elim
    · rw [if_neg ha] at ea
      rw [if_neg hb] at eb
      exact ok.inj a b d ea eb
  · show (if a = p then some c else W.S a) = some d
    rw [if_neg (fun z => by rw [z, Sn] at e; cases e)]
    exact e
  · rintro ⟨b, d, eb, z⟩
    have eb : (if b = p then some c else W.S b) = some d := eb
    by_cases hb : b = p
    · rw [if_pos hb] at eb
      cases eb
      rcases z with z | z
      · rw [z, hb, hp] at e; cases e
      · rw [z, hc] at e; cases e
    · rw [if_neg hb] at eb
      exact n ⟨b, d, eb, z⟩
def absI (i : Int) : Int := if i < 0 then -i else i
theorem absI_nn (i : Int) : 0 ≤ absI i := by unfold absI; split <;> omega
/-- the dict of a source, made -/
theorem disp_reads {K : PySem.W.Frag} {W : Wd} {H : Hp} {Q : VK} {σ : L2.St} {m : Int} {ns : List Int} {tc : TE} (ok : WOk W H) (hm : 0 ≤ m) (hn : ∀ n ∈ ns, 0 ≤ n) (h1 : σ[1]? = some (some (.int m)))
    (htc : ∀ (H1 : Hp) (p : Addr) (R : VK), (∀ b o, H b = some o → H1 b = some o) → H1 p = some (.dK []) → H p = none → (∀ c H2, H1 c = none → (∀ b o, H1 b = some o → H2 b = some o) → H2 c = some (.lst (ns.map V.int)) → R (.ref c) H2) → tc σ H1 R)
    (hq : ∀ v W' H', WOk W' H' → Gr W W' H H' → Dm K W' v srcD → Q v H') : ((tDisp [(qS "cells", tc), (qS "left", qI 1), (qS "mixed", tVar 1), (qS "turn", qI 0)])) σ H Q := by
  intro p hp
  refine htc _ p _ (fun b o e => by rw [upd_ne (fun z => by rw [z, hp] at e; cases e)]; exact e) upd_same hp fun c H2 hc e2 ec => ?_
  refine ⟨_, h1, e2 _ _ upd_same, [(.inr "cells", .ref c), (.inr "left", .int 1), (.inr "mixed", .int m), (.inr "turn", .int 0)], rfl, (by show 4 ≤ 15; decide), ?_⟩
  have hcp : c ≠ p := fun z => by rw [z, upd_same] at hc; cases hc
  rw [upd_ne hcp] at hc
  have em : mergeK [] [((.inr "cells" : Key), V.ref c), (.inr "left", .int 1), (.inr "mixed", .int m), (.inr "turn", .int 0)] = srcK c 1 m 0 := by with_unfolding_all rfl
  rw [em]
  have up : ∀ b o, H b = some o → upd H2 p (.dK (srcK c 1 m 0)) b = some o := fun b o e => by
    have nb : b ≠ p := fun z => by rw [z, hp] at e; cases e
    rw [upd_ne nb]
    exact e2 _ _ (by rw [upd_ne nb]; exact e)
  obtain ⟨o, g⟩ := lay_src (ns := ns) ok hc hp hcp upd_same (by rw [upd_ne hcp]; exact ec) up hm hn
  exact hq _ _ _ o g (.src (if_pos rfl))
theorem set_c {i : Nat} {v : V} {u : TS} {D : Ends} {σ : L2.St} {H : Hp} (h : u D (σ.set i (some v)) H) : tSeq (tAsg (tC v) (gName i)) u D σ H := h
theorem asg_ {te : TE} {g : TG} {u : TS} {D : Ends} {σ : L2.St} {H : Hp} (h : te σ H fun x H1 => g x σ H1 (u D)) : tSeq (tAsg te g) u D σ H := h
theorem seq_ {t u : TS} {D : Ends} {σ : L2.St} {H : Hp} (h : t { D with nx := u D } σ H) : tSeq t u D σ H := h
theorem stir_reads {K : PySem.W.Frag} {H : Hp} {D : Ends} {a : Addr} {ns : List Int} {rest : List (Option V)} (hs : SqL K H a (ns.map V.int)) (k : ∀ (m : Int) (y : Option V), 0 ≤ m → D.nx (some (.ref a) :: some (.int m) :: y :: rest) H) :
    (tFor (iList K (tVar 0)) (gName 2) (qSet 1 (qMod (qInt (qAdd (qAdd (qMul (tVar 1) (qI 69069)) (qMul (tVar 2) (qI 31))) (qI 5))) (qI 2147483629)))) D (some (.ref a) :: some (.int 11) :: none :: rest) H := by
  refine ⟨_, rfl, a, rfl, ⟨_, hs⟩, for_list (xs := ns.map V.int) (fun i σ H' => H' = H ∧ ∃ (m : Int) (y : Option V), 0 ≤ m ∧ σ = some (.ref a) :: some (.int m) :: y :: rest) ⟨rfl, 11, none, by decide, rfl⟩ (fun i σ H' _ h => by rw [h.1]; exact hs) (fun i x σ H' hx h => ?_) fun σ H' h => ?_⟩
  · obtain ⟨rfl, m, y, hm, rfl⟩ := h
    rw [List.getElem?_map] at hx
    cases e : ns[i]? with
    | none => rw [e] at hx; cases hx
    | some n =>
      rw [e] at hx
      cases hx
      refine ⟨_, rfl, m, 69069, rfl, rfl, .inr ⟨by decide, by decide⟩, _, rfl, n, 31, rfl, rfl, .inr ⟨by decide, by decide⟩, _, _, rfl, rfl, _, _, rfl, rfl, .inl ⟨_, rfl, _, _, rfl, rfl, (by show (0 : Int) < 2147483629; decide), rfl, _, _, Int.emod_nonneg _ (by decide), rfl⟩⟩
  · obtain ⟨rfl, m, y, hm, rfl⟩ := h
    exact k m y hm
theorem abs_reads {K : PySem.W.Frag} {H : Hp} {Q : VK} {a : Addr} {ns : List Int} {σ : L2.St} (h0 : σ[0]? = some (some (.ref a))) (h2 : 2 < σ.length) (hs : SqL K H a (ns.map V.int)) (hz : ns.length < sizeLine)
    (k : ∀ D, H D = none → Q (.ref D) (upd H D (.lst ((ns.map absI).map V.int)))) : (tLc (iList K (tVar 0)) (gName 2) tYes (tCB (fun xs H Q => ∃ i, xs = [.int i] ∧ Q (.int (if i < 0 then -i else i)) H) (tCons (tVar 2) tNil)) [2]) σ H Q := by
  refine ⟨_, h0, a, rfl, ⟨_, hs⟩, fun D hD => lc_list (xs := ns.map V.int) (fun i H' => H' = upd H D (.lst (((ns.take i).map absI).map V.int))) rfl (fun i H' _ e => ?_) (fun i x H' hx e => ?_) fun H' e => ?_⟩
  · subst e
    rcases hs with (z | ⟨o, z⟩) | z
    · exact .inl (.inl (by rw [upd_ne (fun y => by rw [y, hD] at z; cases z)]; exact z))
    · exact .inl (.inr ⟨o, by rw [upd_ne (fun y => by rw [y, hD] at z; cases z)]; exact z⟩)
    · exact .inr z
  · subst e
    rw [List.getElem?_map] at hx
    cases e : ns[i]? with
    | none => rw [e] at hx; cases hx
    | some n =>
      rw [e] at hx
      cases hx
      obtain ⟨hi, _⟩ := List.getElem?_eq_some_iff.mp e
      refine ⟨?_, ?_⟩
      · refine List.ext_getElem? fun j => ?_
        rw [wipe_get, wipe_get]
        show (if j ∈ [2] then _ else (List.set (L2.wipe σ [2]) 2 _)[j]?) = _
        by_cases hj : j = 2
        · subst hj
          simp [wipe_length]
        · have : j ∉ [2] := by simpa using hj
          rw [if_neg this, if_neg this, List.getElem?_set_ne (Ne.symm hj), wipe_get, if_neg this]
      · simp only [tYes, ↓reduceIte]
        refine ⟨.int n, ?_, n, rfl, _, upd_same, by simp; omega, ?_⟩
        · show (List.set (L2.wipe σ [2]) 2 _)[2]? = _
          rw [List.getElem?_set_self (by rw [wipe_length]; exact h2)]
        · rw [upd_upd, List.take_add_one, e]
          simp [absI]
  · subst e
    rw [List.length_map, List.take_length]
    exact k D hD
theorem revL_reads {K : PySem.W.Frag} {H : Hp} {R : VK} {t : TE} {σ : L2.St} {x : Addr} {ns : List Int} (h : ∀ Q : VK, (∀ c H2, (H c = none) → (∀ b o, H b = some o → H2 b = some o) → H2 c = some (.lst (ns.map V.int)) → Q (.ref c) H2) → t σ H Q)
    (k : ∀ c H2, H c = none → (∀ b o, H b = some o → H2 b = some o) → H2 c = some (.lst (ns.reverse.map V.int)) → R (.ref c) H2) : tRevL K t σ H R := by
  refine h _ fun c H2 hc h2 e => ⟨c, _, rfl, SqL.of e, fun p hp => ?_⟩
  refine k p _ ?_ (fun b o q => ?_) (by rw [upd_same, List.map_reverse])
  · cases q : H p with
    | none => rfl
    | some o => rw [h2 _ _ q] at hp; cases hp
  · rw [upd_ne (fun z => by rw [z] at q; rw [h2 _ _ q] at hp; cases hp)]
    exact h2 _ _ q
theorem ints_inj : ∀ {ns ms : List Int}, ns.map PyData.int = ms.map PyData.int → ns = ms
  | [], [], _ => rfl
  | [], _ :: _, h => nomatch h
  | _ :: _, [], h => nomatch h
  | n :: ns, m :: ms, h => by
    rw [List.map_cons, List.map_cons] at h
    injection h with h1 h2
    injection h1 with h1
    rw [h1, ints_inj h2]
theorem scr_inv {K : PySem.W.Frag} {W : Wd} {v : V} {ns : List Int} (h : Dm K W v (scrD ns)) : ∃ a, v = .ref a ∧ SqL K W.F a (ns.map V.int) := by
  generalize hd : scrD ns = d at h
  cases h with
  | src e => cases hd
  | scr e =>
    injection hd with h1
    injection h1 with h1 _
    injection h1 with _ h1
    injection h1 with h1
    rw [ints_inj h1]
    exact ⟨_, rfl, e⟩
  | _ => cases hd
/-- script, stirred, cell, cells -/
def qOpenA (K : PySem.W.Frag) : TS := (tSeq (qSet 1 (qI 11))
  (tSeq (tFor (iList K (tVar 0)) (gName 2) (qSet 1 (qMod (qInt (qAdd (qAdd (qMul (tVar 1) (qI 69069)) (qMul (tVar 2) (qI 31))) (qI 5))) (qI 2147483629))))
  (tSeq (tAsg (tLc (iList K (tVar 0)) (gName 2) tYes (tCB (fun xs H Q => ∃ i, xs = [.int i] ∧ Q (.int (if i < 0 then -i else i)) H) (tCons (tVar 2) tNil)) [2]) (gName 3))
  (tRet (tDisp [(qS "cells", tRevL K (tVar 3)), (qS "left", qI 1), (qS "mixed", tVar 1), (qS "turn", qI 0)])))))
theorem openA_reads {K : PySem.W.Frag} {H : Hp} {W : Wd} {ds : List PyData} {vs : List V} {Pp : RP} {Q : VK} (ok : WOk W H) (dms : DmAll K W vs ds) (h : SOpen ds Pp) (hq : ∀ d, Pp d → ∀ v W' H', WOk W' H' → Gr W W' H H' → Dm K W' v d → Q v H') :
    qOpenA K { nx := fun _ H' => Q .non H', rt := Q } (L2.start ["script", "stirred", "cell", "cells"] vs) H := by
  obtain ⟨ns, rfl, hlen, hP⟩ := h
  have hns : ∀ n ∈ (ns.map absI).reverse, 0 ≤ n := fun n hn => by
    obtain ⟨m, _, rfl⟩ := List.mem_map.mp (List.mem_reverse.mp hn)
    exact absI_nn m
  match vs, dms with
  | [_], .cons h0 .nil =>
    obtain ⟨a, rfl, hS0⟩ := scr_inv h0
    have hS : SqL K H a (ns.map V.int) := SqL.gr ok.fh hS0
    refine set_c (seq_ (stir_reads hS fun m y hm => ?_))
    dsimp only
    refine asg_ (abs_reads rfl (by simp) hS (Nat.lt_of_le_of_lt hlen (by decide)) fun D hD => ?_)
    obtain ⟨o1, g1, f1, i1⟩ := layO (o := .lst ((ns.map absI).map V.int)) ok hD
    refine disp_reads (K := K) (ns := (ns.map absI).reverse) o1 hm hns rfl (fun H1 p R h1 hp hp0 kk => ⟨.ref D, rfl, D, _, rfl, SqL.of (h1 _ _ upd_same), fun q hq0 => ?_⟩) fun v W' H' o g dm => hq _ hP v W' H' o (g1.trans g) dm
    refine kk q _ hq0 (fun b o e => by rw [upd_ne (fun z => by rw [z, hq0] at e; cases e)]; exact e) (by rw [upd_same, List.map_reverse])
/-- script, mixed, cell -/
def qOpenB (K : PySem.W.Frag) : TS := (tSeq (qSet 1 (qI 11))
  (tSeq (tFor (iList K (tVar 0)) (gName 2) (qSet 1 (qMod (qInt (qAdd (qAdd (qMul (tVar 1) (qI 69069)) (qMul (tVar 2) (qI 31))) (qI 5))) (qI 2147483629))))
  (tRet (tDisp [(qS "cells", tRevL K (tLc (iList K (tVar 0)) (gName 2) tYes (tCB (fun xs H Q => ∃ i, xs = [.int i] ∧ Q (.int (if i < 0 then -i else i)) H) (tCons (tVar 2) tNil)) [2])), (qS "left", qI 1), (qS "mixed", tVar 1), (qS "turn", qI 0)]))))
theorem openB_reads {K : PySem.W.Frag} {H : Hp} {W : Wd} {ds : List PyData} {vs : List V} {Pp : RP} {Q : VK} (ok : WOk W H) (dms : DmAll K W vs ds) (h : SOpen ds Pp) (hq : ∀ d, Pp d → ∀ v W' H', WOk W' H' → Gr W W' H H' → Dm K W' v d → Q v H') :
    qOpenB K { nx := fun _ H' => Q .non H', rt := Q } (L2.start ["script", "mixed", "cell"] vs) H := by
  obtain ⟨ns, rfl, hlen, hP⟩ := h
  have hns : ∀ n ∈ (ns.map absI).reverse, 0 ≤ n := fun n hn => by
    obtain ⟨m, _, rfl⟩ := List.mem_map.mp (List.mem_reverse.mp hn)
    exact absI_nn m
  match vs, dms with
  | [_], .cons h0 .nil =>
    obtain ⟨a, rfl, hS0⟩ := scr_inv h0
    have hS : SqL K H a (ns.map V.int) := SqL.gr ok.fh hS0
    refine set_c (seq_ (stir_reads hS fun m y hm => ?_))
    dsimp only
    refine disp_reads (K := K) (ns := (ns.map absI).reverse) ok hm hns rfl (fun H1 p R h1 hp hp0 kk => ?_) fun v W' H' o g dm => hq _ hP v W' H' o g dm
    have hS1 : SqL K H1 a (ns.map V.int) := SqL.gr h1 hS
    refine abs_reads rfl (by simp) hS1 (Nat.lt_of_le_of_lt hlen (by decide)) fun D hD => ⟨D, _, rfl, SqL.of upd_same, fun q hq0 => ?_⟩
    have nq : q ≠ D := fun z => by rw [z, upd_same] at hq0; cases hq0
    refine kk q _ (by rw [upd_ne nq] at hq0; exact hq0) (fun b o e => ?_) (by rw [upd_same, List.map_reverse])
    have nb : b ≠ D := fun z => by rw [z, hD] at e; cases e
    rw [upd_ne (fun z => by rw [z] at e; rw [upd_ne nq, e] at hq0; cases hq0), upd_ne nb]
    exact e
end MM
set_option Elab.async false
set_option linter.all false
set_option maxRecDepth 100000
set_option maxHeartbeats 1000000
/-! M8: defs bundled with where they stand -/
namespace MM
open PySem PySem.Spec L2
theorem bb_len : bootBuiltins "len" = some (.builtin "len") := by decide +kernel
theorem bb_abs : bootBuiltins "abs" = some (.builtin "abs") := by decide +kernel
theorem bb_max : bootBuiltins "max" = some (.builtin "max") := by decide +kernel
theorem bb_min : bootBuiltins "min" = some (.builtin "min") := by decide +kernel
theorem bb_sum : bootBuiltins "sum" = some (.builtin "sum") := by decide +kernel
theorem bb_repr : bootBuiltins "repr" = some (.builtin "repr") := by decide +kernel
theorem bb_any : bootBuiltins "any" = some (.builtin "any") := by decide +kernel
theorem bb_all : bootBuiltins "all" = some (.builtin "all") := by decide +kernel
theorem bb_sorted : bootBuiltins "sorted" = some (.builtin "sorted") := by decide +kernel
theorem bb_int : bootBuiltins "int" = some (.type "int") := by decide +kernel
theorem bb_tuple : bootBuiltins "tuple" = some (.type "tuple") := by decide +kernel
theorem bb_list : bootBuiltins "list" = some (.type "list") := by decide +kernel
/-- the def x of the text, by the name x -/
structure DefAt (K : PySem.W.Frag) (mg : Str → Option Value) (x : Str) (st : Stmt) (ps : List Str) : Prop where
  ex : ∃ (f : Addr) (fd : FuncData), Fun K x x st f fd ∧ mg x = some (.ref f) ∧ Binds K fd ps []
/-- what x does, by the name x -/
structure Cal (P : Program) (w : World) (K : PySem.W.Frag) (mg : Str → Option Value) (base : Heap) (x : Str) (k : Nat) (ps : List Str) (R : KC) : Prop where
  ex : ∃ (f : Addr) (fd : FuncData), FnG P w K mg base k f fd ps R ∧ mg x = some (.ref f) ∧ PySem.W.keepIn K (.ref f) = true ∧ Binds K fd ps []
section
variable {P : Program} {w : World} {K : PySem.W.Frag} {mg : Str → Option Value} {base : Heap} {x : Str} {k : Nat} {N ps : List Str} {R : KC} {st : Stmt} {b : RS}
theorem Cal.imp {R' : KC} (c : Cal P w K mg base x k ps R) (h : ∀ ds Pp, R' ds Pp → R ds Pp) : Cal P w K mg base x k ps R' := by
  obtain ⟨f, fd, F, a, b, e⟩ := c.ex
  exact ⟨f, fd, F.imp h, a, b, e⟩
theorem cal_g (D : DefAt K mg x st ps) (S : FnScope N ps (defScope st))
    (hbody : ∀ (f : Addr) (cdv : Value) (A : Around) (outer : List Env) (s : Shared) (H : Hp) (B : Bs), MX (cxOf CX0 P w K mg base N x (defScope st) f cdv A outer s H E0).nox k → PSs (cxOf CX0 P w K mg base N x (defScope st) f cdv A outer s H E0).nox (defBody st) (tMS K B b)) :
    Cal P w K mg base x (k + 1) ps (rDef ps.length N.length b) := by
  obtain ⟨f, fd, F, h1, h2⟩ := D.ex
  exact ⟨f, fd, def_g F S (hbody f), h1, F.kp, h2⟩
theorem cal_raw (D : DefAt K mg x st ps) (S : FnScope N ps (defScope st)) (hlen : ∀ ds Pp, R ds Pp → ds.length = ps.length)
    (hbody : ∀ (f : Addr) (cdv : Value) (A : Around) (outer : List Env) (s : Shared) (H : Hp) (W : Wd) (ds : List PyData) (vs : List V) (Pp : RP) (Q : VK), MX (cxOf CX0 P w K mg base N x (defScope st) f cdv A outer s H E0).nox k →
      WOk W H → DmAll K W vs ds → R ds Pp → (∀ d, Pp d → ∀ v W' H', WOk W' H' → Gr W W' H H' → Dm K W' v d → Q v H') →
      ∃ t, PSs (cxOf CX0 P w K mg base N x (defScope st) f cdv A outer s H E0).nox (defBody st) t ∧ t { nx := fun _ H' => Q .non H', rt := Q } (L2.start N vs) H) : Cal P w K mg base x (k + 1) ps R := by
  obtain ⟨f, fd, F, h1, h2⟩ := D.ex
  exact ⟨f, fd, def_raw F S hlen (hbody f), h1, F.kp, h2⟩
end
section
variable {X : Cx} {n k : Nat} {ps : List Str} {R : KC} {x : Str} {p pos : Pos} {e : Expr} {es : List Expr} {ra : RA}
theorem mcl (c : Cal X.prog X.w X.K X.mg X.base x k ps R) (m : MX X n) (ha : PA X (e :: es) (tMA X.K ra)) (hkn : k ≤ n := by decide) (hg : Gl X x := by rfl)
    (hdb : (x == ("__debug__" : Str)) = false := by decide) (he : starEach (e :: es) X.env = (false, eval e X.env) :: starEach es X.env := by rfl) (hpl : (backTo pos (starEach es X.env)).any (·.1) = false := by rfl) :
    PE X (.Call (.Name x p) (e :: es) [] pos) (tM X.K (rFn R ra)) := by
  obtain ⟨f, fd, F, h1, h2, h3⟩ := c.ex
  exact mcall m F h1 h2 h3 ha hkn hg hdb he hpl
end
theorem ands {A B : Prop} (a : A) (b : B) : A ∧ B := ⟨a, b⟩
end MM
set_option Elab.async false
set_option linter.all false
set_option maxRecDepth 100000
set_option maxHeartbeats 1000000
/-! M9: more operators -/
namespace MM
open PySem PySem.Spec L2
/-! ### x in a list or tuple of flat things -/
def flatD : PyData → Bool
  | .none | .bool _ | .int _ | .str _ => true
  | _ => false
def vF : PyData → V
  | .bool b => .bl b
  | .int i => .int i
  | .str x => .str x
  | _ => .non
def eqF : PyData → PyData → Bool := fun x y => eqV (vF x) (vF y)
def kInN (neg : Bool) : K2 := fun x y P => match y with
  | .list ds => (flatD x = true ∧ ds.all flatD = true) ∧ P (.bool (if neg then !ds.any (fun y => eqF y x) else ds.any fun y => eqF y x))
  | .tuple ds => (flatD x = true ∧ ds.all flatD = true) ∧ P (.bool (if neg then !ds.any (fun y => eqF y x) else ds.any fun y => eqF y x))
  | _ => False
abbrev kIn := kInN false
abbrev kNotIn := kInN true
section
variable {X : Cx} {K : PySem.W.Frag} {W : Wd} {H : Hp}
theorem flat_w {v : V} {d : PyData} (h : Weak K W H v d) (f : flatD d = true) : v = vF d := by
  cases d with
  | none => exact h.non
  | bool b => exact h.bool
  | int i => exact h.int
  | str x => exact h.str
  | _ => exact absurd f (by simp [flatD])
theorem flat_v : ∀ {d : PyData}, flatD d = true → flatV (vF d) = true := fun {d} f => by
  cases d <;> first | rfl | exact absurd f (by simp [flatD])
theorem flat_all : ∀ {vs : List V} {ds : List PyData}, DmAll K W vs ds → ds.all flatD = true → vs = ds.map vF ∧ vs.all flatV = true
  | _, _, .nil, _ => ⟨rfl, rfl⟩
  | _, _, .cons (v := v) (d := d) a b, f => by
    rw [List.all_cons, Bool.and_eq_true] at f
    obtain ⟨h1, h2⟩ := flat_all b f.2
    have h0 := flat_w (H := fun _ => none) (.inl a) f.1
    refine ⟨by rw [h1, h0, List.map_cons], ?_⟩
    rw [List.all_cons, h2, h0, flat_v f.1]; rfl
theorem in_map (x : PyData) (ds : List PyData) : inV (vF x) (ds.map vF) = ds.any fun y => eqF y x := by
  unfold inV
  rw [List.any_map]; rfl
theorem om_inN {neg : Bool} {f : Value → Value → Sem Value} (hf : OpR X f (rIn X.K neg)) : OpM X f (kInN neg) := by
  intro pins s σ H x y v u Q I rx ry ⟨W, d, e, P, ok, wx, wy, q, hq⟩
  cases e with
  | list ds =>
    obtain ⟨⟨f1, f2⟩, p⟩ := q
    obtain ⟨a, xs, rfl, h1, dms⟩ := wy.lst ok
    obtain ⟨e1, e2⟩ := flat_all dms f2
    refine hf pins s σ H _ _ v u Q I rx ry ⟨a, xs, rfl, .inl (SqL.of h1), by rw [flat_w wx f1]; exact flat_v f1, e2, ?_⟩
    refine hq _ p _ W H ok (Gr.refl W H) ?_
    rw [flat_w wx f1, e1, in_map]
    exact .bl _
  | tuple ds =>
    obtain ⟨⟨f1, f2⟩, p⟩ := q
    obtain ⟨a, xs, rfl, h1, dms, _⟩ := wy.tup ok
    obtain ⟨e1, e2⟩ := flat_all dms f2
    refine hf pins s σ H _ _ v u Q I rx ry ⟨a, xs, rfl, .inr h1, by rw [flat_w wx f1]; exact flat_v f1, e2, ?_⟩
    refine hq _ p _ W H ok (Gr.refl W H) ?_
    rw [flat_w wx f1, e1, in_map]
    exact .bl _
  | _ => exact False.elim q
theorem om_in : OpM X (compareOp .In) kIn := om_inN op_in_seq
theorem om_notin : OpM X (compareOp .NotIn) kNotIn := om_inN op_notIn_seq
end
end MM
set_option Elab.async false
set_option linter.all false
set_option maxRecDepth 100000
set_option maxHeartbeats 1000000
/-! M10: a fresh list in a parallel assignment: row, a, b = [], h, k -/
namespace MM
open PySem PySem.Spec L2
inductive FAt (K : PySem.W.Frag) (H : Hp) (W' : Wd) (H' : Hp) : Nat → List V → List PyData → Prop
  | here {v : V} {vs : List V} {d : PyData} {ds : List PyData} : Fresh K H W' H' v d → DmAll K W' vs ds → FAt K H W' H' 0 (v :: vs) (d :: ds)
  | there {k : Nat} {v : V} {vs : List V} {d : PyData} {ds : List PyData} : Dm K W' v d → FAt K H W' H' k vs ds → FAt K H W' H' (k + 1) (v :: vs) (d :: ds)
def tMAF (K : PySem.W.Frag) (k : Nat) (r : RA) : TA := fun σ H Q => ∃ env W, Rel K W H env σ ∧ WOk W H ∧ ∃ P : List PyData → Prop, r env P ∧ ∀ ds, P ds → ∀ vs W' H', WOk W' H' → Gr W W' H H' → FAt K H W' H' k vs ds → Q vs H'
section
variable {X : Cx} {e : Expr} {es : List Expr} {r : RE} {rr : RA} {pos : Pos} {k : Nat}
theorem Fresh.up {K : PySem.W.Frag} {H H1 : Hp} {W W1 W2 : Wd} {H2 : Hp} {v : V} {d : PyData} (g : Gr W W1 H H1) (h : Fresh K H1 W2 H2 v d) : Fresh K H W2 H2 v d := by
  obtain ⟨a, e, n, o⟩ := h
  refine ⟨a, e, ?_, o⟩
  cases q : H a with
  | none => rfl
  | some x =>
    obtain ⟨x', e'⟩ := g.hs a x q
    rw [n] at e'
    cases e'
theorem FAt.up {K : PySem.W.Frag} {H H1 : Hp} {W W1 W2 : Wd} {H2 : Hp} (g : Gr W W1 H H1) : ∀ {k : Nat} {vs : List V} {ds : List PyData}, FAt K H1 W2 H2 k vs ds → FAt K H W2 H2 k vs ds
  | _, _, _, .here f d => .here (f.up g) d
  | _, _, _, .there d f => .there d (f.up g)
theorem maf_here (h : PE X e (tMf X.K r)) (hr : PA X es (tMA X.K rr)) (hs : starEach (e :: es) X.env = (false, eval e X.env) :: starEach es X.env := by rfl) : PA X (e :: es) (tMAF X.K 0 (aCons r rr)) :=
  imA (pa_cons h hr hs) fun σ H Q ⟨env, W, rel, ok, P, hr, hq⟩ => ⟨env, W, rel, ok, _, hr, fun x hx v W1 H1 o1 g1 fr => ⟨env, W1, rel.gr g1, o1, _, hx, fun xs hxs vs W2 H2 o2 g2 dms => hq _ hxs _ W2 H2 o2 (g1.trans g2) (.here (by
    obtain ⟨a, e, n, o⟩ := fr
    exact ⟨a, e, n, o.gr g2⟩) dms)⟩⟩
theorem maf_there (h : PE X e (tM X.K r)) (hr : PA X es (tMAF X.K k rr)) (hs : starEach (e :: es) X.env = (false, eval e X.env) :: starEach es X.env := by rfl) : PA X (e :: es) (tMAF X.K (k + 1) (aCons r rr)) :=
  imA (pa_cons h hr hs) fun σ H Q ⟨env, W, rel, ok, P, hr, hq⟩ => ⟨env, W, rel, ok, _, hr, fun x hx v W1 H1 o1 g1 dm => ⟨env, W1, rel.gr g1, o1, _, hx, fun xs hxs vs W2 H2 o2 g2 dms => hq _ hxs _ W2 H2 o2 (g1.trans g2) (.there (g2.dm dm) (dms.up g1))⟩⟩
end
/-- a, b, c = x, y, z: the value at place k is an own list -/
def setK (k : Nat) : Nat → En → List (Nat × PyData) → En
  | _, env, [] => env
  | j, env, (i, d) :: l => setK k (j + 1) (env.set i (if j = k then .o d else .f d)) l
def rParO (k : Nat) (is : List Nat) (ra : RA) : RS := fun env M => ra env fun ds => ds.length = is.length ∧ M.nx (setK k 0 env (is.zip ds))
section
variable {K : PySem.W.Frag} {W W' : Wd} {H H' : Hp} {H0 : Hp} {env env' : En} {σ σ' : L2.St}
/-- the open places are still those of env: a fresh thing may come in -/
def Old (env : En) (σ : L2.St) (env' : En) (σ' : L2.St) : Prop := ∀ (j : Nat) e, env'[j]? = some (Sl.o e) → env[j]? = some (Sl.o e) ∧ σ'[j]? = σ[j]?
theorem Old.refl : Old env σ env σ := fun _ _ q => ⟨q, rfl⟩
theorem Old.set (h : Old env σ env' σ') (i : Nat) (d : PyData) (v : V) : Old env σ (env'.set i (.f d)) (σ'.set i (some v)) := fun j e q => by
  rw [List.getElem?_set] at q ⊢
  by_cases hj : i = j
  · subst hj
    rw [if_pos rfl] at q
    split at q
    · cases q
    · cases q
  · rw [if_neg hj] at q ⊢
    exact h j e q
theorem fresh_apart (rel : Rel K W H env σ) (old : Old env σ env' σ') {v : V} {d : PyData} (fr : Fresh K H W' H' v d) (i : Nat) : ∀ (j : Nat) e, j ≠ i → env'[j]? = some (Sl.o e) → σ'[j]? ≠ some (some v) := fun j e _ hq hs => by
  obtain ⟨a, rfl, na, ow⟩ := fr
  obtain ⟨q, e2⟩ := old j e hq
  rw [e2] at hs
  obtain ⟨u, eu, own⟩ := rel.op j e q
  rw [hs] at eu; cases eu
  cases e with
  | list ds =>
    obtain ⟨b, xs, eb, _, _, hb, _⟩ := own
    cases eb
    rw [na] at hb; cases hb
  | _ => exact own.elim
end
section
variable {X : Cx}
theorem fresh_new {K : PySem.W.Frag} {B : Bs} {W W' : Wd} {H H' : Hp} {v : V} {d : PyData} (g0 : GB B W H) (fr : Fresh K H W' H' v d) : ∀ a, v = .ref a → B.H0 a = none := fun b eb => by
  obtain ⟨a, ev, na, ow⟩ := fr
  rw [ev] at eb
  cases eb
  exact g0.g.none na
theorem Fresh.own {K : PySem.W.Frag} {W' : Wd} {H H' : Hp} {v : V} {d : PyData} (fr : Fresh K H W' H' v d) : Own K W' H' v d := by
  obtain ⟨a, e, n, o⟩ := fr
  exact o
theorem ms_parO3 {B : Bs} {ra : RA} {k i j l : Nat} {x y z : Str} {a b c : Expr} {px py pz pt : Pos} {kt k2 pt2} {pos : Pos} (hc : X.calm = true) (m : X.N.Nodup) (ha : PA X [a, b, c] (tMAF X.K k ra)) (hi : X.N[i]? = some x := by rfl) (hj : X.N[j]? = some y := by rfl) (hl : X.N[l]? = some z := by rfl)
    (hij : i ≠ j := by decide) (hil : i ≠ l := by decide) (hjl : j ≠ l := by decide)
    (hx : X.env.scope.names.lookup x = some .local := by rfl) (hy : X.env.scope.names.lookup y = some .local := by rfl) (hz : X.env.scope.names.lookup z = some .local := by rfl)
    (hw : swappedStores [.Tuple [.Name x px, .Name y py, .Name z pz] kt pt] (.Tuple [a, b, c] k2 pt2) X.env = pure (some [x, y, z]) := by rfl)
    (hs : swapsWithSole [.Tuple [.Name x px, .Name y py, .Name z pz] kt pt] (.Tuple [a, b, c] k2 pt2) pos.line X.env = pure false := by rfl) :
    PS X (.Assign [.Tuple [.Name x px, .Name y py, .Name z pz] kt pt] (.Tuple [a, b, c] k2 pt2) pos) (tMS X.K B (rParO k [i, j, l] ra)) :=
  imS (ps_par3 hc m hi hj hl hij hil hjl hx hy hz ha hw hs) fun D σ H ⟨env, ⟨W, rel, ok, g0, nw⟩, M, hr, en⟩ => ⟨env, W, rel, ok, _, hr, fun ds p vs W' H' o g dms => by
    obtain ⟨hl, p⟩ := p
    match k, ds, hl, dms, p with
    | 0, [d1, d2, d3], _, .here f (.cons e2 (.cons e3 .nil)), p => exact ⟨_, _, _, rfl, en.nx _ p _ _ ⟨W', (((rel.gr g).setO i f.own (fresh_apart rel .refl f i)).set j e2).set l e3, o, g0.trans g, ((nw.setO i (fresh_new g0 f)).set j).set l⟩⟩
    | 1, [d1, d2, d3], _, .there e1 (.here f (.cons e3 .nil)), p => exact ⟨_, _, _, rfl, en.nx _ p _ _ ⟨W', (((rel.gr g).set i e1).setO j f.own (fresh_apart rel (Old.refl.set i _ _) f j)).set l e3, o, g0.trans g, ((nw.set i).setO j (fresh_new g0 f)).set l⟩⟩
    | 2, [d1, d2, d3], _, .there e1 (.there e2 (.here f .nil)), p => exact ⟨_, _, _, rfl, en.nx _ p _ _ ⟨W', (((rel.gr g).set i e1).set j e2).setO l f.own (fresh_apart rel ((Old.refl.set i _ _).set j _ _) f l), o, g0.trans g, ((nw.set i).set j).setO l (fresh_new g0 f)⟩⟩
    | _ + 3, [d1, d2, d3], _, .there _ (.there _ (.there _ f)), _ => nomatch f⟩
theorem ms_parO {B : Bs} {ra : RA} {k i j : Nat} {x y : Str} {a b : Expr} {px py pt : Pos} {kt k2 pt2} {pos : Pos} (hc : X.calm = true) (m : X.N.Nodup) (ha : PA X [a, b] (tMAF X.K k ra)) (hi : X.N[i]? = some x := by rfl) (hj : X.N[j]? = some y := by rfl) (hij : i ≠ j := by decide)
    (hx : X.env.scope.names.lookup x = some .local := by rfl) (hy : X.env.scope.names.lookup y = some .local := by rfl)
    (hw : swappedStores [.Tuple [.Name x px, .Name y py] kt pt] (.Tuple [a, b] k2 pt2) X.env = pure (some [x, y]) := by rfl)
    (hs : swapsWithSole [.Tuple [.Name x px, .Name y py] kt pt] (.Tuple [a, b] k2 pt2) pos.line X.env = pure false := by rfl) :
    PS X (.Assign [.Tuple [.Name x px, .Name y py] kt pt] (.Tuple [a, b] k2 pt2) pos) (tMS X.K B (rParO k [i, j] ra)) :=
  imS (ps_par hc m hi hj hij hx hy ha hw hs) fun D σ H ⟨env, ⟨W, rel, ok, g0, nw⟩, M, hr, en⟩ => ⟨env, W, rel, ok, _, hr, fun ds p vs W' H' o g dms => by
    obtain ⟨hl, p⟩ := p
    match k, ds, hl, dms, p with
    | 0, [d1, d2], _, .here f (.cons e2 .nil), p => exact ⟨_, _, rfl, en.nx _ p _ _ ⟨W', ((rel.gr g).setO i f.own (fresh_apart rel .refl f i)).set j e2, o, g0.trans g, (nw.setO i (fresh_new g0 f)).set j⟩⟩
    | 1, [d1, d2], _, .there e1 (.here f .nil), p => exact ⟨_, _, rfl, en.nx _ p _ _ ⟨W', ((rel.gr g).set i e1).setO j f.own (fresh_apart rel (Old.refl.set i _ _) f j), o, g0.trans g, (nw.set i).setO j (fresh_new g0 f)⟩⟩
    | _ + 2, [d1, d2], _, .there _ (.there _ f), _ => nomatch f⟩
end
end MM
set_option Elab.async false
set_option linter.all false
set_option maxRecDepth 100000
set_option maxHeartbeats 1000000
/-! M11: a fresh list in a tuple that is unpacked at once: row, a, b = ([], h, k), where row is a cell -/
namespace MM
open PySem PySem.Spec L2
inductive OAt (K : PySem.W.Frag) (W : Wd) (H : Hp) : Nat → V → List V → List PyData → Prop
  | here {v : V} {vs : List V} {d : PyData} {ds : List PyData} : Own K W H v d → DmAll K W vs ds → OAt K W H 0 v (v :: vs) (d :: ds)
  | there {k : Nat} {u v : V} {vs : List V} {d : PyData} {ds : List PyData} : Dm K W v d → OAt K W H k u vs ds → OAt K W H (k + 1) u (v :: vs) (d :: ds)
def Apart (env : En) (σ : L2.St) (v : V) : Prop := ∀ (j : Nat) e, env[j]? = some (Sl.o e) → σ[j]? ≠ some (some v)
/-- the open places are old, or hold v -/
def KeepX (env e : En) (σ σ' : L2.St) (v : V) : Prop := ∀ (i : Nat) (d : PyData), e[i]? = some (.o d) → (env[i]? = some (.o d) ∧ σ'[i]? = σ[i]?) ∨ σ'[i]? = some (some v)
def tMGo (K : PySem.W.Frag) (k : Nat) (r : RGs) : TGs := fun vs σ H Q => ∃ env W u, Rel K W H env σ ∧ WOk W H ∧ ∃ ds, OAt K W H k u vs ds ∧ Apart env σ u ∧ ∃ P, r env ds P ∧ ∀ e, P e → ∀ σ', Rel K W H e σ' → KeepX env e σ σ' u → Q σ' H
def rgNameO (i : Nat) : RG := fun env d P => P (env.set i (.o d))
section
variable {X : Cx} {pos : Pos} {g : RG} {gs : RGs} {e : Expr} {es : List Expr} {k : Nat}
theorem keepX_o (env : En) (σ : L2.St) (i : Nat) (d : PyData) (v : V) (hi : i < σ.length) : KeepX env (env.set i (.o d)) σ (σ.set i (some v)) v := fun j e q => by
  rw [List.getElem?_set] at q
  by_cases hj : i = j
  · subst hj
    exact .inr (by rw [List.getElem?_set]; simp [hi])
  · rw [if_neg hj] at q
    exact .inl ⟨q, by rw [List.getElem?_set, if_neg hj]⟩
theorem mgo_there {is : List Nat} (h1 : PG X e (tMG X.K is g)) (h2 : PGs X es (tMGo X.K k gs)) (hs : (assignEach (e :: es) X.env).map (·.2) = assign e X.env :: (assignEach es X.env).map (·.2) := by rfl) : PGs X (e :: es) (tMGo X.K (k + 1) (rgCons g gs)) :=
  imGs (pgs_cons h1 h2 hs) fun vs σ H Q ⟨env, W, u, rel, ok, ds, oat, ap, P, hr, hq⟩ => by
    cases oat with
    | there d1 d2 => exact ⟨_, _, rfl, env, W, rel, ok, _, d1, _, hr, fun e p σ' rel' k' o' => ⟨e, W, u, rel', ok, _, d2, (fun j x q => by
        obtain ⟨q1, e1⟩ := k' j x q
        rw [e1]; exact ap j x q1), P, p, fun e2 p2 σ2 rel2 k2 => hq e2 p2 σ2 rel2 fun j x q => by
        rcases k2 j x q with ⟨q1, e1⟩ | h
        · obtain ⟨q2, e2⟩ := k' j x q1
          exact .inl ⟨q2, e1.trans e2⟩
        · exact .inr h⟩⟩
theorem mgo_here {js : List Nat} (m : X.N.Nodup) (i : Nat) {x : Str} (h2 : PGs X es (tMGs X.K js gs)) (hi : X.N[i]? = some x := by rfl) (hx : Loc X.env.scope x := by first | exact Or.inl rfl | exact Or.inr rfl) (hf : X.fn x = true ∨ X.env.scope.names.lookup x = some .local := by first | exact .inl rfl | exact .inr rfl)
    (hij : i ∉ js := by decide) (hs : (assignEach (.Name x pos :: es) X.env).map (·.2) = assign (.Name x pos) X.env :: (assignEach es X.env).map (·.2) := by rfl) : PGs X (.Name x pos :: es) (tMGo X.K 0 (rgCons (rgNameO i) gs)) :=
  imGs (pgs_cons (pg_name m hi hx hf) h2 hs) fun vs σ H Q ⟨env, W, u, rel, ok, ds, oat, ap, P, hr, hq⟩ => by
    cases oat with
    | here own d2 =>
      refine ⟨_, _, rfl, ?_⟩
      refine ⟨_, W, rel.setO i own (fun j q _ hq hs => ap j q hq hs), ok, _, d2, P, hr, fun e p σ' rel' k' o' => hq e p σ' rel' fun j x q => ?_⟩
      obtain ⟨q1, e1⟩ := k' j x q
      rw [List.getElem?_set] at q1
      by_cases hj : i = j
      · subst hj
        right
        rw [e1, List.getElem?_set]
        rw [if_pos rfl] at q1
        split at q1
        · rename_i hlt
          rw [if_pos rfl]
          have : i < σ.length := by rw [← rel.len]; omega
          rw [if_pos this]
        · cases q1
      · rw [if_neg hj] at q1
        exact .inl ⟨q1, by rw [e1, List.getElem?_set, if_neg hj]⟩
end
section
variable {X : Cx} {pos : Pos} {es ts : List Expr} {rr : RA} {gs : RGs} {k n : Nat}
theorem FAt.oat {K : PySem.W.Frag} {H : Hp} {W W2 : Wd} {H1 H2 : Hp} (g : Gr W W2 H1 H2) : ∀ {k : Nat} {vs : List V} {ds : List PyData}, FAt K H W H1 k vs ds → ∃ u, OAt K W2 H2 k u vs ds ∧ ∃ d, Fresh K H W H1 u d
  | _, _, _, .here f d => ⟨_, .here (f.own.gr g) (g.dms d), _, f⟩
  | _, _, _, .there d f => by
    obtain ⟨u, o, q⟩ := FAt.oat g f
    exact ⟨u, .there (g.dm d) o, q⟩
theorem FAt.length {K : PySem.W.Frag} {H : Hp} {W : Wd} {H1 : Hp} : ∀ {k : Nat} {vs : List V} {ds : List PyData}, FAt K H W H1 k vs ds → vs.length = ds.length
  | _, _, _, .here f d => by rw [List.length_cons, List.length_cons, d.length]
  | _, _, _, .there d f => by rw [List.length_cons, List.length_cons, f.length]
/-- a, b, c = (x, y, z), one of x, y, z a fresh list -/
def rAsgO (n : Nat) (ra : RA) (gs : RGs) : RS := fun env M => ra env fun ds => (ds.length ≤ sizeLine ∧ ds.length = n) ∧ gs env ds M.nx
theorem ms_asgO {B : Bs} {kt k2 : Nat} {pt p2 : Pos} (hc : X.calm = true) (ha : PA X es (tMAF X.K k rr)) (hg : PGs X ts (tMGo X.K k gs)) (hn : (assignEach ts X.env).length = n := by rfl) (hst : (assignEach ts X.env).findIdx? (·.1) = none := by rfl)
    (hs : swapsWithSole [.Tuple ts kt pt] (.Tuple es k2 p2) pos.line X.env = pure false := by rfl) (hw : swappedStores [.Tuple ts kt pt] (.Tuple es k2 p2) X.env = pure none := by rfl)
    (h1 : (assignEach [.Tuple ts kt pt] X.env).map (·.2) = [assign (.Tuple ts kt pt) X.env] := by rfl) : PS X (.Assign [.Tuple ts kt pt] (.Tuple es k2 p2) pos) (tMS X.K B (rAsgO n rr gs)) :=
  imS (ps_asg (pe_tup ha) (pg_tup hc hg hn hst) hs hw h1) fun D σ H ⟨env, ⟨W, rel, ok, g0, nw⟩, M, hr, en⟩ =>
  ⟨env, W, rel, ok, _, hr, fun ds p vs W1 H1 o1 g1 fat => ⟨by rw [fat.length]; exact p.1.1, fun a ha => by
    obtain ⟨o2, g2⟩ := lay (o := .tup vs) o1 ha
    obtain ⟨u, oat, d, fr⟩ := fat.oat g2
    have g := g1.trans g2
    refine ⟨_, _, rfl, SqT.of upd_same, by rw [fat.length]; exact p.1.2, env, _, u, rel.gr g, o2, ds, oat, ?_, _, p.2, fun e pe σ' rel' kx => en.nx e pe _ _ ⟨_, rel', o2, g0.trans g, ?_⟩⟩
    · intro j x q
      exact fresh_apart rel .refl fr (σ.length + 1) j x (fun z => by
        have : j < σ.length := by
          rw [← rel.len]
          exact (List.getElem?_eq_some_iff.mp q).1
        omega) q
    · intro j x b q hs
      rcases kx j x q with ⟨q1, e1⟩ | h
      · rw [e1] at hs
        exact nw j x b q1 hs
      · rw [h] at hs
        exact fresh_new g0 fr b (Option.some.inj (Option.some.inj hs))⟩⟩
end
end MM
set_option Elab.async false
set_option linter.all false
set_option maxRecDepth 100000
set_option maxHeartbeats 1000000
/-! M12: starred members, lists that are popped, break -/
namespace MM
open PySem PySem.Spec L2
def aStar (ra : RE) (rr : RA) : RA := fun env P => ra env fun d => match d with
  | .tuple xs => rr env fun ys => P (xs ++ ys)
  | .list xs => rr env fun ys => P (xs ++ ys)
  | _ => False
section
variable {X : Cx} {e : Expr} {es : List Expr} {r : RE} {rr : RA} {pos p : Pos}
theorem ma_star (h : PE X e (tMw X.K r)) (hr : PA X es (tMA X.K rr)) (hs : starEach (.Starred e p :: es) X.env = (true, eval e X.env) :: starEach es X.env := by rfl) : PA X (.Starred e p :: es) (tMA X.K (aStar r rr)) :=
  imA (StX.pa_star h hr hs) fun σ H Q ⟨env, W, rel, ok, P, hr, hq⟩ => ⟨env, W, rel, ok, _, hr, fun d hd v W1 H1 o1 g1 wk => by
    cases d with
    | tuple xs =>
      obtain ⟨a, vs, rfl, h1, d1, _⟩ := wk.tup o1
      exact ⟨a, vs, rfl, .inl h1, env, W1, rel.gr g1, o1, _, hd, fun ys hy us W2 H2 o2 g2 dms => hq _ hy _ W2 H2 o2 (g1.trans g2) ((g2.dms d1).append dms)⟩
    | list xs =>
      obtain ⟨a, vs, rfl, h1, d1⟩ := wk.lst o1
      exact ⟨a, vs, rfl, .inr (SqL.of h1), env, W1, rel.gr g1, o1, _, hd, fun ys hy us W2 H2 o2 g2 dms => hq _ hy _ W2 H2 o2 (g1.trans g2) ((g2.dms d1).append dms)⟩
    | _ => exact False.elim hd⟩
end
/-! ### L.pop() -/
def rPop1 (i : Nat) : RS := fun env M => match env[i]? with
  | some (.o (.list ds)) => ds ≠ [] ∧ M.nx (env.set i (.o (.list ds.dropLast)))
  | _ => False
def rPopA (i : Nat) (g : RG) : RS := fun env M => match env[i]? with
  | some (.o (.list ds)) => ∃ d, ds.getLast? = some d ∧ g (env.set i (.o (.list ds.dropLast))) d M.nx
  | _ => False
theorem DmAll.dropLast {K : PySem.W.Frag} {W : Wd} {vs : List V} {ds : List PyData} (h : DmAll K W vs ds) : DmAll K W vs.dropLast ds.dropLast := by
  rw [List.dropLast_eq_take, List.dropLast_eq_take, h.length]
  exact h.take _
section
variable {X : Cx} {B : Bs} {pos : Pos} {g : RG}
theorem pop1_of {i : Nat} {D : Ends} {σ : L2.St} {H : Hp} (h : tMS X.K B (rPop1 i) D σ H) : tDrop (tBM0 X.K "list" L2.rPop (tVar i)) D σ H := by
  obtain ⟨env, ⟨W, rel, ok, g0, nw⟩, M, hr, en⟩ := h
  unfold rPop1 at hr
  split at hr
  · rename_i ds hi
    obtain ⟨v, ev, own⟩ := rel.op i _ hi
    obtain ⟨a, xs, rfl, fa, ia, ha, dms⟩ := own
    have hl : xs.length = ds.length := dms.length
    have hx : xs ≠ [] := fun z => hr.1 (List.length_eq_zero_iff.mp (by rw [← hl, z]; rfl))
    refine ⟨.ref a, ev, .inl ⟨rfl, xs, SqL.of ha⟩, a, xs, xs.getLast hx, rfl, rfl, ha, ?_, ?_⟩
    · rw [← List.getLast?_eq_getElem?, List.getLast?_eq_some_getLast hx]
    · exact en.nx _ hr.2 _ _ (SR.wr rel ok g0 nw hi ev fa ia ha dms.dropLast)
  · exact hr.elim
theorem ms_pop (i : Nat) {o : Expr} {apos cpos : Pos} (ho : PE X o (tVar i)) (hbase : attributeBase o "pop" X.env (eval o X.env) = eval o X.env := by rfl) (hline : (apos.endLine == cpos.line) = true := by rfl)
    (hsw : swapsWith (.Call (.Attribute o "pop" apos) [] [] cpos) none pos.line X.env = pure false := by rfl) : PS X (.Expr (.Call (.Attribute o "pop" apos) [] [] cpos) pos) (tMS X.K B (rPop1 i)) :=
  imS (ps_expr (pe_bm0 PySem.F.plainAttrs_list PySem.F.slot_list_pop PySem.F.type_list_pop mt_pop ho hbase hline) hsw) fun _ _ _ h => pop1_of h
theorem ms_popA (i : Nat) {o tg : Expr} {is : List Nat} {apos cpos : Pos} (ho : PE X o (tVar i)) (hg : PG X tg (tMG X.K is g)) (hbase : attributeBase o "pop" X.env (eval o X.env) = eval o X.env := by rfl) (hline : (apos.endLine == cpos.line) = true := by rfl)
    (hs : swapsWithSole [tg] (.Call (.Attribute o "pop" apos) [] [] cpos) pos.line X.env = pure false := by rfl) (hw : swappedStores [tg] (.Call (.Attribute o "pop" apos) [] [] cpos) X.env = pure none := by rfl)
    (h1 : (assignEach [tg] X.env).map (·.2) = [assign tg X.env] := by rfl) : PS X (.Assign [tg] (.Call (.Attribute o "pop" apos) [] [] cpos) pos) (tMS X.K B (rPopA i g)) :=
  imS (ps_asg (pe_bm0 PySem.F.plainAttrs_list PySem.F.slot_list_pop PySem.F.type_list_pop mt_pop ho hbase hline) hg hs hw h1) fun D σ H ⟨env, ⟨W, rel, ok, g0, nw⟩, M, hr, en⟩ => by
    unfold rPopA at hr
    split at hr
    · rename_i ds hi
      obtain ⟨d, hd, hr⟩ := hr
      obtain ⟨v, ev, own⟩ := rel.op i _ hi
      obtain ⟨a, xs, rfl, fa, ia, ha, dms⟩ := own
      have hl : xs.length = ds.length := dms.length
      rw [List.getLast?_eq_getElem?] at hd
      obtain ⟨y, hy, dy⟩ := dms.get hd
      refine ⟨.ref a, ev, .inl ⟨rfl, xs, SqL.of ha⟩, a, xs, y, rfl, rfl, ha, by rw [hl]; exact hy, ?_⟩
      obtain ⟨rel2, ok2, g2, nw2⟩ := wr_core rel ok g0 nw hi ev fa ia ha dms.dropLast
      exact ⟨_, W, rel2, ok2, d, dy, _, hr, fun e p' σ' rel' k _ => en.nx e p' _ _ ⟨W, rel', ok2, g2, k.new nw2⟩⟩
    · exact hr.elim
end
/-! ### break -/
def rBrk : RS := fun env M => M.bk env
def rCnt : RS := fun env M => M.ct env
section
variable {X : Cx} {B : Bs} {pos : Pos}
theorem ms_break : PS X (.Break pos) (tMS X.K B rBrk) := imS ps_break fun D σ H ⟨env, s, M, hr, en⟩ => en.bk _ hr _ _ s
theorem ms_cont : PS X (.Continue pos) (tMS X.K B rCnt) := imS ps_continue fun D σ H ⟨env, s, M, hr, en⟩ => en.ct _ hr _ _ s
end
end MM
set_option Elab.async false
set_option linter.all false
set_option maxRecDepth 100000
set_option maxHeartbeats 1000000
/-! M13: a, b = a list; a list times a number -/
namespace L2
open PySem PySem.Spec PyProof.Rows
theorem tuple_mulW1 (l : Addr) (items : Array Value) (n : Nat) (dd : Option Addr) (sl : Array (Option Value)) (u : Tok) :
    Meets (Builtin.«tuple.__mul__» ⟨[.ref l, .int 1 u], []⟩) (fun _ R s => s.heap.get? l = some { cls := .type "tuple", dict := dd, data := .seq items n, slots := sl } ∧
      R (.ok (.ret (Value.ref l))) s) :=
  .of_wp fun prog w A R s h => by
    obtain ⟨hp, g, d, tk, os⟩ := s
    obtain ⟨hl, h⟩ := h
    have f1 := AutoSeq1.idx_int
    have c0 : (decide ((1 : Int) < -(2 ^ 63)) || decide ((1 : Int) ≥ 2 ^ 63)) = false := by decide
    have c1 : (items.isEmpty || (1 : Int) == 1) = true := by rw [Bool.or_eq_true]; exact .inr rfl
    wp_walk using wpAny_loadPart' hl
    exact ⟨_, rfl, h⟩
def rRepT1 (K : PySem.W.Frag) : R2 := fun x y H Q => ∃ l xs, x = .ref l ∧ y = .int 1 ∧ SqT K H l xs ∧ Q (.ref l) H
section
variable {X : Cx}
theorem op_repT1 : OpR X (binaryOp .Mult) (rRepT1 X.K) := by
  intro pins s σ H x y v u Q I rx ry h
  obtain ⟨l, xs, rfl, rfl, hT, q⟩ := h
  cases rx
  obtain ⟨t, rfl⟩ := ry
  obtain ⟨its, r, ⟨⟨cls, dd, data, sl⟩, ho, hc, n, hd⟩, hs⟩ := I.tuple hT
  simp only at hc hd
  subst hc hd
  refine wpAny_binaryOp_repeat_ref (T := "tuple") (U := "int") (by decide) ⟨_, ho, rfl⟩ (fun s' => typeIs_int s' 1 t) noFill_tuple_mul F.fills_int_mul F.slot_int_rmul repeat_tuple F.slot_int_index.lookup
    (call_meets F.slot_int_rmul (typeIs_int s 1 t) F.entry_int_rmul (F.args_int_rmul_2 _ _) (int_rmul_tuple 1 t l its.toArray n dd sl)
      ⟨ho, rfl, ⟨_, ho, rfl⟩, call_meets F.slot_tuple_mul ⟨_, ho, rfl⟩ F.entry_tuple_mul (F.args_tuple_mul_2 _ _) (tuple_mulW1 l its.toArray n dd sl t) ⟨ho, ?_⟩⟩)
  exact ⟨.ref l, _, I, rfl, q⟩
end
end L2
namespace MM
open PySem PySem.Spec L2
section
variable {X : Cx} {pos : Pos} {es : List Expr} {gs : RGs} {g : RG} {e : Expr}
def rgLst (n : Nat) (gs : RGs) : RG := fun env d P => match d with
  | .list ds => ds.length = n ∧ gs env ds P
  | _ => False
theorem mg_lst {k n : Nat} {is : List Nat} (hc : X.calm = true) (h : PGs X es (tMGs X.K is gs)) (hn : (assignEach es X.env).length = n := by rfl) (hst : (assignEach es X.env).findIdx? (·.1) = none := by rfl) : PG X (.Tuple es k pos) (tMG X.K is (rgLst n gs)) :=
  imG (pg_lst hc h hn hst) fun v σ H Q ⟨env, W, rel, ok, d, dm, P, hr, hq⟩ => by
    cases d with
    | list ds =>
      cases dm with
      | lst h1 h2 => exact ⟨_, _, rfl, SqL.of (ok.fh _ _ h1), by rw [h2.length]; exact hr.1, env, W, rel, ok, ds, h2, P, hr.2, hq⟩
    | _ => exact False.elim hr
end
def kRep : K2 := fun x y P => match x, y with
  | .list xs, .int k => (-(2 ^ 63) ≤ k ∧ k < 2 ^ 63 ∧ xs.length * k.toNat ≤ sizeLine) ∧ P (.list (List.replicate k.toNat xs).flatten)
  | .tuple xs, .int k => (1 ≤ k ∧ k ≤ 1000 ∧ xs ≠ [] ∧ xs.length ≤ 1000) ∧ P (.tuple (List.replicate k.toNat xs).flatten)
  | _, _ => False
theorem DmAll.rep {K : PySem.W.Frag} {W : Wd} {vs : List V} {ds : List PyData} (h : DmAll K W vs ds) : ∀ n : Nat, DmAll K W (List.replicate n vs).flatten (List.replicate n ds).flatten
  | 0 => .nil
  | n + 1 => by
    rw [List.replicate_succ, List.replicate_succ, List.flatten_cons, List.flatten_cons]
    exact h.append (DmAll.rep h n)
theorem om_rep {X : Cx} : OpM X (binaryOp .Mult) kRep := by
  intro pins s σ H x y v u Q I rx ry ⟨W, d, e, P, ok, wx, wy, hk, hq⟩
  cases d <;> cases e <;> first | exact False.elim hk | skip
  · rename_i xs k
    obtain ⟨a, vs, rfl, h1, dms⟩ := wx.lst ok
    have := wy.int
    subst this
    obtain ⟨⟨k1, k2, k3⟩, hp⟩ := hk
    refine op_rep pins s σ H _ _ v u Q I rx ry ⟨a, k, vs, rfl, rfl, h1, k1, k2, by rw [dms.length]; exact k3, fun p hp' => ?_⟩
    obtain ⟨o', g'⟩ := lay (o := .lst (List.replicate k.toNat vs).flatten) ok hp'
    exact hq _ hp _ _ _ o' g' (.lst upd_same (g'.dms (dms.rep _)))
  · rename_i xs k
    obtain ⟨a, vs, rfl, h1, dms, f1⟩ := wx.tup ok
    have := wy.int
    subst this
    obtain ⟨⟨k1, k2, k3, k4⟩, hp⟩ := hk
    by_cases e1 : k = 1
    · subst e1
      have el : (List.replicate (1 : Int).toNat xs).flatten = xs := by
        show (List.replicate 1 xs).flatten = xs
        simp
      rw [el] at hp
      exact op_repT1 pins s σ H _ _ v u Q I rx ry ⟨a, vs, rfl, rfl, h1, hq _ hp _ W H ok (Gr.refl _ _) (.tup f1 dms)⟩
    refine op_repT pins s σ H _ _ v u Q I rx ry ⟨a, k, vs, rfl, rfl, h1, fun z => k3 ?_, by omega, k2, by rw [dms.length]; exact k4, fun p hp' => ?_⟩
    · subst z
      cases dms
      rfl
    · obtain ⟨o', g'⟩ := lay (o := .tup (List.replicate k.toNat vs).flatten) ok hp'
      exact hq _ hp _ _ _ o' g' (.tup (SqT.of upd_same) (g'.dms (dms.rep _)))
end MM
set_option Elab.async false
set_option linter.all false
set_option maxRecDepth 100000
set_option maxHeartbeats 1000000
/-! M14: a tuple turned about by a slice -/
namespace MM
open PySem PySem.Spec PyProof.Rows L2
section
variable {prog : Program} {w : World} {A : Around} {E : Value → Shared → Prop} {s : Shared}
theorem sliceApplied_rev {sl : Addr} {vs : Value} {n : Nat} {Q : Int × Int × Nat → Shared → Prop} (hs : s.heap.IsSliceOf sl .none .none vs) (ps : IsPart vs (some (-1)))
    (h : Q ((n : Int) - 1, -1, n) s) : wpAny (model prog w) A (Builtin.Slice.sliceApplied (.ref sl) (pure (n : Int))) Q E s := by
  obtain ⟨os, hos, hcs, hds⟩ := id hs
  unfold Builtin.Slice.sliceApplied Builtin.Slice.sliceFields
  refine wpAny_bind (wpAny_bind (wpAny_field hos hds (x := .none) rfl (wpAny_bind (wpAny_field hos hds (x := .none) rfl (wpAny_bind (wpAny_field hos hds (x := vs) rfl (wpAny_pure ?_)))))))
  refine wpAny_bind (HT.slicePart_ ps ?_)
  show wpAny _ _ (if ((-1 : Int) == 0) = true then _ else _) _ _ s
  rw [if_neg (by decide)]
  refine wpAny_bind (slicePart_none (wpAny_bind (slicePart_none (wpAny_bind (wpAny_pure ?_)))))
  show wpAny _ _ (match Builtin.Slice.sliceAdjust none none (-1) (n : Int) with | (lo, hi) => pure (lo, (-1 : Int), Builtin.Slice.slicePlaces lo hi (-1))) _ _ s
  have e : Builtin.Slice.sliceAdjust none none (-1) (n : Int) = ((n : Int) - 1, -1) := by
    unfold Builtin.Slice.sliceAdjust
    simp
  rw [e]
  have e2 : Builtin.Slice.slicePlaces ((n : Int) - 1) (-1) (-1) = n := by
    unfold Builtin.Slice.slicePlaces
    simp only [show ¬ ((-1 : Int) > 0) by decide, if_false]
    split
    · rw [show -(-1 : Int) = 1 by decide, Int.ediv_one]; omega
    · omega
  show wpAny _ _ (pure ((n : Int) - 1, (-1 : Int), Builtin.Slice.slicePlaces ((n : Int) - 1) (-1) (-1))) _ _ s
  rw [e2]
  exact wpAny_pure h
theorem fm_congr {α β : Type} {f g : α → Option β} : ∀ {l : List α}, (∀ x ∈ l, f x = g x) → l.filterMap f = l.filterMap g
  | [], _ => rfl
  | x :: l, h => by
    rw [List.filterMap_cons, List.filterMap_cons, h x (List.mem_cons_self ..), fm_congr fun y hy => h y (List.mem_cons_of_mem _ hy)]
theorem fm_all {β : Type} : ∀ l : List β, ((List.range l.length).filterMap fun m => l[m]?) = l
  | [] => rfl
  | x :: l => by
    rw [List.length_cons, List.range_succ_eq_map, List.filterMap_cons, List.filterMap_map]
    have : ((fun m => (x :: l)[m]?) ∘ Nat.succ) = fun m => l[m]? := by funext m; simp
    rw [this, fm_all l]; rfl
theorem pick_rev (xs : Array Value) : ((List.range xs.size).filterMap fun (m : Nat) => xs[(((xs.size : Nat) : Int) - 1 + (m : Int) * (-1)).toNat]?).toArray = xs.toList.reverse.toArray := by
  congr 1
  obtain ⟨l, rfl⟩ : ∃ l : List Value, xs = l.toArray := ⟨xs.toList, by simp⟩
  simp only [List.size_toArray]
  have e : (List.range l.length).filterMap (fun (m : Nat) => l.toArray[((l.length : Int) - 1 + (m : Int) * (-1)).toNat]?) = (List.range l.length).filterMap (fun m => l.reverse[m]?) := by
    refine fm_congr fun m hm => ?_
    have := List.mem_range.mp hm
    rw [List.getElem?_reverse this, List.getElem?_toArray]
    congr 1
    omega
  rw [e]
  have := fm_all l.reverse
  rwa [List.length_reverse] at this
theorem getItem_tuple_rev {t sl : Addr} {items : Array Value} {vs : Value} {Q : Value → Shared → Prop} (ht : IsTup s.heap t items) (hs : s.heap.IsSliceOf sl .none .none vs) (ps : IsPart vs (some (-1)))
    (h : Q (.ref s.heap.objs.size) { s with heap := s.heap.push { cls := .type "tuple", data := .seq items.toList.reverse.toArray } })
    (hsz : items.size ≤ sizeLine) : wpAny (model prog w) A (getItem (.ref t) (.ref sl)) Q E s := by
  have htake : sizeOk (.seq items.toList.reverse.toArray) := by
    show items.toList.reverse.toArray.size ≤ sizeLine
    rw [List.size_toArray, List.length_reverse, Array.length_toList]
    omega
  obtain ⟨os, hos, hcs, hds⟩ := id hs
  have hTs : s.TypeIs (.ref sl) "slice" := ⟨os, hos, hcs⟩
  unfold getItem
  try with_reducible refine wpAny_holding ?_
  first | refine wpAny_bind (wpAny_pure ?_) | skip
  refine wpAny_bind (wpAny_sequenceKey ht.typeIs (by decide) ?_)
  refine wpAny_bind (wpAny_callSpecial?_slot (name := Str.ofString "__getitem__") ht.typeIs PyProof.Rows.slot_tuple_getitem
    (wpAny_call_entry PyProof.Rows.slot_tuple_getitem ht.typeIs entry_tuple_getitem ?_ (args_tuple_getitem _ _)))
  show wpAny _ _ (Builtin.Tuple.tupleItemsOf (.ref t) >>= _) _ _ s
  refine wpAny_bind (tupleItemsOf_ ht ?_)
  refine wpAny_bind (wpAny_typeOf hTs ?_)
  rw [if_pos (by decide)]
  refine wpAny_bind (sliceApplied_rev hs ps ?_)
  have hno : ¬ ((((items.size : Nat) : Int) - 1 == 0 && (-1 : Int) == 1 && items.size == items.size) = true) := by
    intro q
    rw [Bool.and_eq_true, Bool.and_eq_true] at q
    exact absurd q.1.2 (by decide)
  show wpAny _ _ (if (((items.size : Nat) : Int) - 1 == 0 && (-1 : Int) == 1 && items.size == items.size) = true then _ else _) _ _ s
  rw [if_neg hno, pick_rev]
  first
    | exact wpAny_bind (m := Builtin.Tuple.tupleExact _) (wpAny_newObj_type (wpAny_pure ⟨_, rfl, wpAny_pure h⟩) htake)
    | exact wpAny_bind (m := Builtin.Tuple.tupleExact _) (wpAny_newObj_type (wpAny_bind (wpAny_pure (wpAny_pure ⟨_, rfl, wpAny_pure h⟩))) htake)
    | exact wpAny_bind (wpAny_bind (m := Builtin.Tuple.tupleExact _) (wpAny_newObj_type (wpAny_pure (wpAny_pure ⟨_, rfl, wpAny_pure h⟩)) htake))
    | exact wpAny_bind (wpAny_bind (m := Builtin.Tuple.tupleExact _) (wpAny_newObj_type (wpAny_pure ⟨_, rfl, wpAny_pure h⟩) htake))
end
/-- a text turned about -/
def revS (z : Str) : Str := ⟨z.cps.toList.reverse.toArray⟩
theorem revS_length (z : Str) : (revS z).length = z.length := by
  show z.cps.toList.reverse.toArray.size = z.cps.size
  rw [List.size_toArray, List.length_reverse, Array.length_toList]
theorem rev_picked (z : Str) : ((Builtin.Str.strSliceIndices none none (-1) z.length).filterMap (z.cps[·]?)).toArray = z.cps.toList.reverse.toArray := by
  congr 1
  have hn : z.length = z.cps.toList.length := by
    show z.cps.size = _
    rw [Array.length_toList]
  have e : Builtin.Str.strSliceIndices none none (-1) z.length = (List.range z.length).map fun k => z.length - 1 - k := by
    unfold Builtin.Str.strSliceIndices sliceRange
    simp only [show ¬ ((-1 : Int) > 0) by decide, if_false]
    have c : (if (z.length : Int) - 1 > -1 then ((z.length : Int) - 1 - -1 - -1 - 1) / (- -1) else 0).toNat = z.length := by
      rw [show (- -1 : Int) = 1 by decide, Int.ediv_one]
      split <;> omega
    rw [c]
    refine List.map_congr_left fun k hk => ?_
    have := List.mem_range.mp hk
    omega
  rw [e, List.filterMap_map]
  have e2 : (List.range z.length).filterMap ((fun x => z.cps[x]?) ∘ fun k => z.length - 1 - k) = (List.range z.length).filterMap fun m => z.cps.toList.reverse[m]? := by
    refine fm_congr fun m hm => ?_
    have := List.mem_range.mp hm
    show z.cps[z.length - 1 - m]? = _
    rw [List.getElem?_reverse (by rw [← hn]; exact this), Array.getElem?_toList, hn]
  rw [e2, hn]
  have := fm_all z.cps.toList.reverse
  rwa [List.length_reverse] at this
section
variable {X : Cx}
def tRevA (K : PySem.W.Frag) (te : TE) : TE := fun σ H Q => te σ H fun x H1 => (∃ z, x = .str z ∧ z.length ≤ sizeLine ∧ Q (.str (revS z)) H1) ∨ ∃ a xs, x = .ref a ∧ ((SqL K H1 a xs ∧ ∀ p, H1 p = none → Q (.ref p) (upd H1 p (.lst xs.reverse))) ∨ (SqT K H1 a xs ∧ ∀ p, H1 p = none → Q (.ref p) (upd H1 p (.tup xs.reverse))))
theorem pe_revA {e : Expr} {te : TE} {k : Nat} {p1 p2 p3 pos : Pos} (he : PE X e te) : PE X (.Subscript e (.Slice none none (some (.UnaryOp .USub (.Constant (.int 1) k p1) p2)) p3) pos) (tRevA X.K te) := by
  refine ⟨fun pins s σ H Q I h => ?_⟩
  refine Subscript_ (thn (he.run pins s σ H _ I h) fun v s1 ⟨x, H1, I1, r1, q1⟩ => ?_)
  rcases q1 with ⟨z, ex, hz, hq⟩ | ⟨a, xs, ex, hq⟩
  · subst ex
    obtain ⟨t, rfl⟩ := r1
    have hst : PO X (some (.UnaryOp .USub (.Constant (.int 1) k p1) p2)) (tPart (tUn (rU fun i => .int (-i)) (tC (.int 1)))) := po_some (pe_un un_neg pe_int)
    refine wpAny_Slice (thn (po_none.run pins s1 σ H1 (fun o H2 => o = none ∧ H2 = H1) I1 ⟨rfl, rfl⟩) fun vl s2 ⟨l, H2, I2, pl, el, e2⟩ => ?_)
    subst el e2
    refine thn (po_none.run pins s2 σ H2 (fun o H3 => o = none ∧ H3 = H2) I2 ⟨rfl, rfl⟩) fun vu s3 ⟨u, H3, I3, pu, eu, e3⟩ => ?_
    subst eu e3
    refine thn (hst.run pins s3 σ H3 (fun o H4 => o = some (-1) ∧ H4 = H3) I3 ⟨1, rfl, -1, rfl, rfl, rfl⟩) fun vs s4 ⟨o, H4, I4, ps, eo, e4⟩ => ?_
    subst eo e4
    have I5 : Inv X pins σ H4 { s4 with heap := s4.heap.push { cls := .type "slice", data := .fields #[vl, vu, vs] } } := I4.kept (t' := s4.toks) fun b ob q => Heap.get?_push_of_some _ q
    obtain ⟨l, rfl, hl⟩ := IsPart.raw pl
    obtain ⟨u, rfl, hu⟩ := IsPart.raw pu
    obtain ⟨w, rfl, hw⟩ := IsPart.raw ps
    have l0 : l = none := by cases l with
      | none => rfl
      | some _ => cases hl
    have u0 : u = none := by cases u with
      | none => rfl
      | some _ => cases hu
    subst l0 u0
    cases w with
    | none => cases hw
    | some w =>
      obtain ⟨w1, w2⟩ := w
      have : w1 = -1 := Option.some.inj hw
      subst this
      show wpAny (model X.prog X.w) X.A (subscriptTail e (.Slice none none (some (.UnaryOp .USub (.Constant (.int 1) k p1) p2)) p3) (.str z t) (.ref s4.heap.objs.size)) (EP X pins σ Q) X.xe _
      refine tail_any (ops := [.ref s4.heap.objs.size, .str z t]) (typeIs_str _ z t) F.slot_str_getitem.lookup ?_ (by with_unfolding_all rfl)
      refine wpAny_getItem_str_slice (l := none) (u := none) (st := some (-1, w2)) ⟨_, Heap.get?_push_size _ rfl, rfl, rfl⟩ (by rfl) ?_
      show Made.post (if (((-1 : Int) == 1) && (Builtin.Str.strSliceIndices none none (-1) z.length).length == z.length) = true then Made.val (.str z t)
        else Made.str ⟨((Builtin.Str.strSliceIndices none none (-1) z.length).filterMap (z.cps[·]?)).toArray⟩) (EP X pins σ Q) _
      rw [if_neg (by simp), rev_picked]
      exact ⟨by show (revS z).length ≤ sizeLine; rw [revS_length]; exact hz, .str _, _, I5.tok _, ⟨_, rfl⟩, hq⟩
  subst ex
  cases r1
  have hst : PO X (some (.UnaryOp .USub (.Constant (.int 1) k p1) p2)) (tPart (tUn (rU fun i => .int (-i)) (tC (.int 1)))) := po_some (pe_un un_neg pe_int)
  refine wpAny_Slice (thn (po_none.run pins s1 σ H1 (fun o H2 => o = none ∧ H2 = H1) I1 ⟨rfl, rfl⟩) fun vl s2 ⟨l, H2, I2, pl, el, e2⟩ => ?_)
  subst el e2
  refine thn (po_none.run pins s2 σ H2 (fun o H3 => o = none ∧ H3 = H2) I2 ⟨rfl, rfl⟩) fun vu s3 ⟨u, H3, I3, pu, eu, e3⟩ => ?_
  subst eu e3
  refine thn (hst.run pins s3 σ H3 (fun o H4 => o = some (-1) ∧ H4 = H3) I3 ⟨1, rfl, -1, rfl, rfl, rfl⟩) fun vs s4 ⟨o, H4, I4, ps, eo, e4⟩ => ?_
  subst eo e4
  have I5 : Inv X pins σ H4 { s4 with heap := s4.heap.push { cls := .type "slice", data := .fields #[vl, vu, vs] } } := I4.kept (t' := s4.toks) fun b ob q => Heap.get?_push_of_some _ q
  rcases hq with ⟨hx, q⟩ | ⟨hx, q⟩
  · obtain ⟨its, r, ht, hz⟩ := I5.list hx
    have hlen := r.length
    show wpAny (model X.prog X.w) X.A (subscriptTail e (.Slice none none (some (.UnaryOp .USub (.Constant (.int 1) k p1) p2)) p3) (.ref a) (.ref s4.heap.objs.size)) (EP X pins σ Q) X.xe { s4 with heap := s4.heap.push { cls := .type "slice", data := .fields #[vl, vu, vs] } }
    refine tail_any (ops := [.ref a, .ref s4.heap.objs.size]) ht.isList.typeIs (PySem.slot_list_getitem.lookup) ?_ (by with_unfolding_all rfl)
    refine wpAny_getItem_list_slice ht.isList (Heap.IsSliceOf.new _ vl vu vs) pl pu ps (by decide) ?_ (by rw [List.size_toArray]; omega)
    rw [PySem.W.krv_pick]
    refine ⟨.ref _, _, I5.laid (t' := s4.toks) (o := .lst xs.reverse) (fun b ob q => Heap.get?_push_of_some _ q) (Nat.le_refl _) ?_, rfl, q _ (I5.hok.fresh (Nat.le_refl _))⟩
    exact ⟨by rw [List.length_reverse]; exact hz, _, 0, r.reverse, Heap.get?_push_size _ rfl⟩
  · obtain ⟨its, r, ht, hz⟩ := I5.tuple hx
    have hlen := r.length
    cases pl
    cases pu
    show wpAny (model X.prog X.w) X.A (subscriptTail e (.Slice none none (some (.UnaryOp .USub (.Constant (.int 1) k p1) p2)) p3) (.ref a) (.ref s4.heap.objs.size)) (EP X pins σ Q) X.xe { s4 with heap := s4.heap.push { cls := .type "slice", data := .fields #[.none, .none, vs] } }
    refine tail_any (ops := [.ref a, .ref s4.heap.objs.size]) ht.typeIs (PyProof.Rows.slot_tuple_getitem.lookup) ?_ (by with_unfolding_all rfl)
    refine getItem_tuple_rev ht (Heap.IsSliceOf.new _ .none .none vs) ps ?_ (by rw [List.size_toArray]; omega)
    refine ⟨.ref _, _, I5.laid (t' := s4.toks) (o := .tup xs.reverse) (fun b ob q => Heap.get?_push_of_some _ q) (Nat.le_refl _) ?_, rfl, q _ (I5.hok.fresh (Nat.le_refl _))⟩
    exact ⟨by rw [List.length_reverse]; exact hz, _, r.reverse, IsTup.new _ _⟩
variable {e : Expr} {re : RE} {pos : Pos}
def kRevA : K1 := fun x P => match x with
  | .list ds => P (.list ds.reverse)
  | .tuple ds => P (.tuple ds.reverse)
  | .str z => z.length ≤ sizeLine ∧ P (.str (revS z))
  | _ => False
theorem mrevA {k : Nat} {p1 p2 p3 : Pos} (he : PE X e (tMw X.K re)) : PE X (.Subscript e (.Slice none none (some (.UnaryOp .USub (.Constant (.int 1) k p1) p2)) p3) pos) (tM X.K (rUn kRevA re)) :=
  imE (pe_revA he) fun σ H Q ⟨env, W, rel, ok, P, hr, hq⟩ => ⟨env, W, rel, ok, _, hr, fun x px v W1 H1 o1 g1 wx => by
    cases x with
    | list ds =>
      obtain ⟨a, xs, rfl, h1, dms⟩ := wx.lst o1
      refine .inr ⟨a, xs, rfl, .inl ⟨SqL.of h1, fun p hp => ?_⟩⟩
      obtain ⟨o4, g4⟩ := lay (o := .lst xs.reverse) o1 hp
      exact hq _ px _ _ _ o4 (g1.trans g4) (.lst upd_same (g4.dms dms.reverse))
    | tuple ds =>
      obtain ⟨a, xs, rfl, h1, dms, _⟩ := wx.tup o1
      refine .inr ⟨a, xs, rfl, .inr ⟨h1, fun p hp => ?_⟩⟩
      obtain ⟨o4, g4⟩ := lay (o := .tup xs.reverse) o1 hp
      exact hq _ px _ _ _ o4 (g1.trans g4) (.tup (SqT.of upd_same) (g4.dms dms.reverse))
    | str z =>
      have := wx.str
      subst this
      exact .inl ⟨z, rfl, px.1, hq _ px.2 _ _ _ o1 g1 (.str _)⟩
    | _ => exact False.elim px⟩
end
end MM
set_option Elab.async false
set_option linter.all false
set_option maxRecDepth 100000
set_option maxHeartbeats 1000000
/-! M15: {a: b, c: d, e: f}.get(x), of whole numbers -/
namespace MM
open PySem PySem.Spec L2
section
variable {X : Cx} {pos p apos cpos : Pos} {e : Expr} {r : RE}
theorem cint {i : Int} {jj} : PE X (.Constant (.int i) jj pos) (tC (.int i)) := pe_int
theorem cneg {i : Int} {jj} {p2 : Pos} : PE X (.UnaryOp .USub (.Constant (.int i) jj p2) pos) (tC (.int (-i))) := imE (pe_un un_neg pe_int) fun σ H Q h => ⟨i, rfl, h⟩
def kGet3 (a b c d e f : Int) : K1 := fun x P => match x with
  | .int i => P (if i = a then .int b else if i = c then .int d else if i = e then .int f else .none)
  | _ => False
theorem mdget3 (hu : X.A.units + 1 < cLine) {k1 k2 k3 v1 v2 v3 : Expr} {a b c d a3 b3 : Int} (hac : a ≠ c ∧ a ≠ a3 ∧ c ≠ a3) (h1 : PE X k1 (tC (.int a))) (g1 : PE X v1 (tC (.int b))) (h2 : PE X k2 (tC (.int c))) (g2 : PE X v2 (tC (.int d))) (h3 : PE X k3 (tC (.int a3))) (g3 : PE X v3 (tC (.int b3)))
    (he : PE X e (tM X.K r)) (m : M1 X (.Dict [some k1, some k2, some k3] [v1, v2, v3] p) "get" apos e cpos) : PE X (.Call (.Attribute (.Dict [some k1, some k2, some k3] [v1, v2, v3] p) "get" apos) [e] [] cpos) (tM X.K (rUn (kGet3 a b c d a3 b3) r)) :=
  imE (pe_dget1 hu (pe_disp (pps_cons h1 g1 (pps_cons h2 g2 (pps_cons h3 g3 pps_nil))) rfl rfl (fun z => by cases z) (by simp)) he m) fun σ H Q ⟨env, W, rel, ok, P, hr, hq⟩ => by
    intro q hp
    obtain ⟨ok2, g2, f2, n2⟩ := layO (o := .dK [(.inl a, .int b), (.inl c, .int d), (.inl a3, .int b3)]) ok hp
    refine ⟨upd_same, [(.inl a, .int b), (.inl c, .int d), (.inl a3, .int b3)], rfl, by simp, ?_⟩
    have e1 : mergeK [] [((.inl a : Key), V.int b), (.inl c, .int d), (.inl a3, .int b3)] = [(.inl a, .int b), (.inl c, .int d), (.inl a3, .int b3)] := by
      simp [mergeK, putK, hac.1, hac.2.1, hac.2.2]
    rw [e1, upd_upd]
    refine ⟨q, rfl, .inl ⟨_, .inl upd_same⟩, env, W, rel.gr g2, ok2, _, hr, fun x px v W' H' o' g' dm => ?_⟩
    cases x with
    | int i =>
      cases dm with
      | int =>
        have hH := g'.h _ _ upd_same n2
        refine ⟨_, .inl ⟨_, .inl i, .inl hH, rfl, rfl⟩, ?_⟩
        refine hq _ px _ W' H' o' (g2.trans g') ?_
        simp only [valV, List.find?_cons]
        by_cases i1 : i = a
        · subst i1
          simp
          exact .int _
        · by_cases i2 : i = c
          · subst i2
            rw [if_neg i1]
            simp [hac.1]
            exact .int _
          · by_cases i3 : i = a3
            · subst i3
              rw [if_neg i1, if_neg i2]
              simp [hac.2.1, hac.2.2]
              exact .int _
            · rw [if_neg i1, if_neg i2, if_neg i3]
              simp [Ne.symm i1, Ne.symm i2, Ne.symm i3]
              exact .non
    | _ => exact False.elim px
end
end MM
set_option Elab.async false
set_option linter.all false
set_option maxRecDepth 100000
set_option maxHeartbeats 1000000
/-! M16: sum, max, min of a tuple of whole numbers -/
namespace MM
open PySem PySem.Spec PyProof.Rows L2
section
variable {prog : Program} {w : World} {A : Around} {E : Value → Shared → Prop} {s : Shared} {l : Addr} {xs : Array (Int × Tok)}
theorem iter_intTup {Q : Value → Shared → Prop} (hl : s.heap.IsTuple l (intItems xs))
    (h : ∀ s₂ : Shared, s₂ = { s with heap := s.heap.push { cls := .type "tuple_iterator", data := .fields #[.ref l, .int 0 0] } } →
      (s₂.heap.IsTupleIter s.heap.objs.size l 0 ∧ s₂.heap.IsTuple l (intItems xs)) → (∀ b ∈ [s.heap.objs.size, l], b < s₂.heap.objs.size) → l ≠ s.heap.objs.size → Q (.ref s.heap.objs.size) s₂) :
    wpAny (model prog w) A (pyIter (.ref l)) Q E s := by
  have hlt : l < s.heap.objs.size := by obtain ⟨_, e, _⟩ := hl; exact Heap.lt_size e
  refine wpAny_pyIter_tuple hl (h _ rfl ⟨⟨_, Heap.get?_push_size _ rfl, rfl, rfl⟩, hl.push _⟩ (fun b hb => ?_) (Nat.ne_of_lt hlt))
  show b < (s.heap.push _).objs.size
  rw [Heap.size_push]
  rcases List.mem_cons.mp hb with rfl | hb
  · exact Nat.lt_succ_self _
  · rcases List.mem_cons.mp hb with rfl | hb
    · exact Nat.lt_succ_of_lt hlt
    · cases hb
theorem old_keptT {o2 : Obj} {h' : Heap} (hk : ∀ b o, b ∉ [s.heap.objs.size] → (s.heap.push o2).get? b = some o → h'.get? b = some o) :
    ∀ b o, s.heap.get? b = some o → h'.get? b = some o := fun b o e => by
  refine hk b o (fun hm => ?_) (Heap.get?_push_of_some _ e)
  rcases List.mem_cons.mp hm with e1 | hm
  · exact absurd (e1 ▸ Heap.lt_size e) (Nat.lt_irrefl _)
  · cases hm
theorem max_intTup {Q : Value → Shared → Prop} (hh : A.handled = none) (hl : s.heap.IsTuple l (intItems xs)) (hne : 0 < xs.size)
    (h : ∀ v h' tk, (intItems xs)[argBest (fun i j => decide (numAt xs i > numAt xs j)) (xs.size - 1)]? = some v → (∀ b o, s.heap.get? b = some o → h'.get? b = some o) → Q v { s with heap := h', toks := tk }) :
    wpAny (model prog w) A (call (.builtin "max") [.ref l]) Q E s := by
  refine call_max_walk (iter_intTup hl fun s₂ e st hfp hlI => ?_)
  subst e
  refine ⟨_, _, _, _, _, _, _, rfl, Walks.tuple (A := A.in1) hh _ l hlI (intItems xs), st, hfp, by simpa [intItems] using hne, CmpOf.ints_gt (numAt xs) (fun _ _ => intItems_at), fun v h' tk hP hk => ?_⟩
  exact h v h' tk (by simpa [intItems] using hP) (old_keptT hk)
theorem min_intTup {Q : Value → Shared → Prop} (hh : A.handled = none) (hl : s.heap.IsTuple l (intItems xs)) (hne : 0 < xs.size)
    (h : ∀ v h' tk, (intItems xs)[argBest (fun i j => decide (numAt xs i < numAt xs j)) (xs.size - 1)]? = some v → (∀ b o, s.heap.get? b = some o → h'.get? b = some o) → Q v { s with heap := h', toks := tk }) :
    wpAny (model prog w) A (call (.builtin "min") [.ref l]) Q E s := by
  refine call_min_walk (iter_intTup hl fun s₂ e st hfp hlI => ?_)
  subst e
  refine ⟨_, _, _, _, _, _, _, rfl, Walks.tuple (A := A.in1) hh _ l hlI (intItems xs), st, hfp, by simpa [intItems] using hne, CmpOf.ints_lt (numAt xs) (fun _ _ => intItems_at), fun v h' tk hP hk => ?_⟩
  exact h v h' tk (by simpa [intItems] using hP) (old_keptT hk)
theorem sum_intTup {Q : Value → Shared → Prop} (hh : A.handled = none) (hl : s.heap.IsTuple l (intItems xs))
    (h : ∀ h' tk t', (∀ b o, s.heap.get? b = some o → h'.get? b = some o) → Q (.int (preSum (numAt xs) xs.size) t') { s with heap := h', toks := tk }) :
    wpAny (model prog w) A (call (.builtin "sum") [.ref l]) Q E s := by
  refine call_sum_walkG (iter_intTup hl fun s₂ e st hfp hlI => ?_)
  subst e
  refine ⟨_, _, _, _, _, _, numAt xs, rfl, Walks.tuple (A := A.in1) hh _ l hlI (intItems xs), st, hfp, (fun _ _ => intItems_at), fun h' tk t' hk => ?_⟩
  have := h h' tk t' (old_keptT hk)
  simpa [intItems] using this
end
section
variable {prog : Program} {w : World} {A : Around} {E : Value → Shared → Prop} {s : Shared} {l : Addr} {its : List Value} {ns : List Int} {Q : Value → Shared → Prop}
theorem sum_rawT (hh : A.handled = none) (hl : s.heap.IsTuple l its.toArray) (hi : IntsAre its ns)
    (h : ∀ h' tk t', (∀ b o, s.heap.get? b = some o → h'.get? b = some o) → Q (.int ns.sum t') { s with heap := h', toks := tk }) : wpAny (model prog w) A (call (.builtin "sum") [.ref l]) Q E s := by
  obtain ⟨xs, e⟩ := hi.allInts.items
  have hn : numsOf (intItems xs).toList = ns := by rw [← e]; exact hi.numsOf
  rw [nums_intItems] at hn
  rw [e] at hl
  refine sum_intTup hh hl fun h' tk t' hk => ?_
  have := h h' tk t' hk
  rw [preSum_eq, List.take_of_length_le (by simp), hn]; exact this
theorem max_rawT (hh : A.handled = none) (hl : s.heap.IsTuple l its.toArray) (hi : IntsAre its ns) (hne : 0 < ns.length)
    (h : ∀ h' tk M t', (∀ b o, s.heap.get? b = some o → h'.get? b = some o) → M ∈ ns → (∀ a, a ∈ ns → a ≤ M) → Q (.int M t') { s with heap := h', toks := tk }) : wpAny (model prog w) A (call (.builtin "max") [.ref l]) Q E s := by
  obtain ⟨xs, e⟩ := hi.allInts.items
  have hn : numsOf (intItems xs).toList = ns := by rw [← e]; exact hi.numsOf
  rw [nums_intItems] at hn
  subst hn
  rw [e] at hl
  have hsz : 0 < xs.size := by simpa using hne
  refine max_intTup hh hl hsz fun v h' tk hv hk => ?_
  obtain ⟨t, rfl⟩ := intItems_at hv
  obtain ⟨h1, h2⟩ := argBest_gt (numAt xs) (xs.size - 1)
  refine h h' tk _ t hk ?_ fun a ha => ?_
  · rw [numAt_eq]; exact PySem.getD_mem (by rw [List.length_map, Array.length_toList]; omega)
  · obtain ⟨j, hj, rfl⟩ := mem_getD ha
    rw [List.length_map, Array.length_toList] at hj
    rw [← numAt_eq]; exact h2 j (by omega)
theorem min_rawT (hh : A.handled = none) (hl : s.heap.IsTuple l its.toArray) (hi : IntsAre its ns) (hne : 0 < ns.length)
    (h : ∀ h' tk M t', (∀ b o, s.heap.get? b = some o → h'.get? b = some o) → M ∈ ns → (∀ a, a ∈ ns → M ≤ a) → Q (.int M t') { s with heap := h', toks := tk }) : wpAny (model prog w) A (call (.builtin "min") [.ref l]) Q E s := by
  obtain ⟨xs, e⟩ := hi.allInts.items
  have hn : numsOf (intItems xs).toList = ns := by rw [← e]; exact hi.numsOf
  rw [nums_intItems] at hn
  subst hn
  rw [e] at hl
  have hsz : 0 < xs.size := by simpa using hne
  refine min_intTup hh hl hsz fun v h' tk hv hk => ?_
  obtain ⟨t, rfl⟩ := intItems_at hv
  obtain ⟨h1, h2⟩ := argBest_lt (numAt xs) (xs.size - 1)
  refine h h' tk _ t hk ?_ fun a ha => ?_
  · rw [numAt_eq]; exact PySem.getD_mem (by rw [List.length_map, Array.length_toList]; omega)
  · obtain ⟨j, hj, rfl⟩ := mem_getD ha
    rw [List.length_map, Array.length_toList] at hj
    rw [← numAt_eq]; exact h2 j (by omega)
end
section
variable {X : Cx} {n : Nat}
def rSumT (K : PySem.W.Frag) : List V → Hp → VK → Prop := fun vs H Q => ∃ (a : Addr) (ns : List Int), vs = [V.ref a] ∧ SqT K H a (ns.map V.int) ∧ Q (.int ns.sum) H
def rMaxT (K : PySem.W.Frag) : List V → Hp → VK → Prop := fun vs H Q => ∃ (a : Addr) (ns : List Int), vs = [V.ref a] ∧ SqT K H a (ns.map V.int) ∧ 0 < ns.length ∧ ∀ m, m ∈ ns → (∀ y, y ∈ ns → y ≤ m) → Q (.int m) H
def rMinT (K : PySem.W.Frag) : List V → Hp → VK → Prop := fun vs H Q => ∃ (a : Addr) (ns : List Int), vs = [V.ref a] ∧ SqT K H a (ns.map V.int) ∧ 0 < ns.length ∧ ∀ m, m ∈ ns → (∀ y, y ∈ ns → m ≤ y) → Q (.int m) H
theorem cr_sumT (hc : X.calm = true) : CallR X (.builtin "sum") (rSumT X.K) := by
  intro pins s σ H vs us Q I r h
  obtain ⟨a, ns, rfl, hs, q⟩ := h
  obtain ⟨its, rv, hl, _⟩ := I.tuple hs
  rw [Vals.ref1 r]
  exact sum_rawT (I.ok.hd hc) hl rv.ints fun h' tk t' hk => ⟨.int _, H, I.kept hk, ⟨_, rfl⟩, q⟩
theorem cr_maxT (hc : X.calm = true) : CallR X (.builtin "max") (rMaxT X.K) := by
  intro pins s σ H vs us Q I r h
  obtain ⟨a, ns, rfl, hs, hne, q⟩ := h
  obtain ⟨its, rv, hl, _⟩ := I.tuple hs
  rw [Vals.ref1 r]
  exact max_rawT (I.ok.hd hc) hl rv.ints hne fun h' tk m t' hk h1 h2 => ⟨.int _, H, I.kept hk, ⟨_, rfl⟩, q m h1 h2⟩
theorem cr_minT (hc : X.calm = true) : CallR X (.builtin "min") (rMinT X.K) := by
  intro pins s σ H vs us Q I r h
  obtain ⟨a, ns, rfl, hs, hne, q⟩ := h
  obtain ⟨its, rv, hl, _⟩ := I.tuple hs
  rw [Vals.ref1 r]
  exact min_rawT (I.ok.hd hc) hl rv.ints hne fun h' tk m t' hk h1 h2 => ⟨.int _, H, I.kept hk, ⟨_, rfl⟩, q m h1 h2⟩
/-- of a list or a tuple of ints, told by its ints -/
def kIntsA (k : List Int → RP → Prop) : KC := fun xs P => match xs with
  | [.list ds] => ∃ ns : List Int, ds = ns.map PyData.int ∧ k ns P
  | [.tuple ds] => ∃ ns : List Int, ds = ns.map PyData.int ∧ k ns P
  | _ => False
abbrev kSumA : KC := kIntsA fun ns P => P (.int ns.sum)
abbrev kMaxA : KC := kIntsA fun ns P => 0 < ns.length ∧ ∀ m, m ∈ ns → (∀ y, y ∈ ns → y ≤ m) → P (.int m)
abbrev kMinA : KC := kIntsA fun ns P => 0 < ns.length ∧ ∀ m, m ∈ ns → (∀ y, y ∈ ns → m ≤ y) → P (.int m)
theorem intsA_of {K : PySem.W.Frag} {W : Wd} {H : Hp} {k : List Int → RP → Prop} {xs : List V} {ds : List PyData} {P : RP} (ok : WOk W H) (wa : WeakAll K W H xs ds) (hk : kIntsA k ds P) : ∃ a ns, xs = [.ref a] ∧ (H a = some (.lst (ns.map V.int)) ∨ SqT K H a (ns.map V.int)) ∧ k ns P := by
  unfold kIntsA at hk
  split at hk
  · obtain ⟨v, rfl, w⟩ := wa.one
    obtain ⟨ns, rfl, hk⟩ := hk
    obtain ⟨a, ys, rfl, h1, dms⟩ := w.lst ok
    have := dms.ints; subst this
    exact ⟨a, ns, rfl, .inl h1, hk⟩
  · obtain ⟨v, rfl, w⟩ := wa.one
    obtain ⟨ns, rfl, hk⟩ := hk
    obtain ⟨a, ys, rfl, h1, dms, _⟩ := w.tup ok
    have := dms.ints; subst this
    exact ⟨a, ns, rfl, .inr h1, hk⟩
  · exact hk.elim
theorem cm_sumA (m : MX X n) : CallM X (.builtin "sum") kSumA := by
  intro pins s σ H xs us Q I r ⟨W, ds, P, ok, wa, hk, hq⟩
  obtain ⟨a, ns, rfl, h1 | h1, hk⟩ := intsA_of ok wa hk
  · exact cr_sum m.calm pins s σ H _ us Q I r ⟨a, ns, rfl, SqL.of h1, hq _ hk _ W H ok (Gr.refl _ _) (.int _)⟩
  · exact cr_sumT m.calm pins s σ H _ us Q I r ⟨a, ns, rfl, h1, hq _ hk _ W H ok (Gr.refl _ _) (.int _)⟩
theorem cm_maxA (m : MX X n) : CallM X (.builtin "max") kMaxA := by
  intro pins s σ H xs us Q I r ⟨W, ds, P, ok, wa, hk, hq⟩
  obtain ⟨a, ns, rfl, h1 | h1, hk⟩ := intsA_of ok wa hk
  · exact cr_max m.calm pins s σ H _ us Q I r ⟨a, ns, rfl, SqL.of h1, hk.1, fun x h2 h3 => hq _ (hk.2 x h2 h3) _ W H ok (Gr.refl _ _) (.int _)⟩
  · exact cr_maxT m.calm pins s σ H _ us Q I r ⟨a, ns, rfl, h1, hk.1, fun x h2 h3 => hq _ (hk.2 x h2 h3) _ W H ok (Gr.refl _ _) (.int _)⟩
theorem cm_minA (m : MX X n) : CallM X (.builtin "min") kMinA := by
  intro pins s σ H xs us Q I r ⟨W, ds, P, ok, wa, hk, hq⟩
  obtain ⟨a, ns, rfl, h1 | h1, hk⟩ := intsA_of ok wa hk
  · exact cr_min m.calm pins s σ H _ us Q I r ⟨a, ns, rfl, SqL.of h1, hk.1, fun x h2 h3 => hq _ (hk.2 x h2 h3) _ W H ok (Gr.refl _ _) (.int _)⟩
  · exact cr_minT m.calm pins s σ H _ us Q I r ⟨a, ns, rfl, h1, hk.1, fun x h2 h3 => hq _ (hk.2 x h2 h3) _ W H ok (Gr.refl _ _) (.int _)⟩
end
end MM
set_option Elab.async false
set_option linter.all false
set_option maxRecDepth 100000
set_option maxHeartbeats 1000000
/-! M17: L[i] = e; a fresh list by repeating -/
namespace MM
open PySem PySem.Spec L2
def rStore (i : Nat) (re rj : RE) : RS := fun env M => re env fun d => match env[i]? with
  | some (.o (.list ds)) => rj env fun x => match x with
    | .int j => ∃ k : Nat, j = (k : Int) ∧ k < ds.length ∧ M.nx (env.set i (.o (.list (ds.set k d))))
    | _ => False
  | _ => False
theorem DmAll.set {K : PySem.W.Frag} {W : Wd} : ∀ {vs : List V} {ds : List PyData} (k : Nat) {v : V} {d : PyData}, DmAll K W vs ds → Dm K W v d → DmAll K W (vs.set k v) (ds.set k d)
  | _, _, _, _, _, .nil, _ => .nil
  | _, _, 0, _, _, .cons _ t, h => .cons h t
  | _, _, k + 1, _, _, .cons a t, h => .cons a (DmAll.set k t h)
section
variable {X : Cx} {B : Bs} {pos spos : Pos} {o e j : Expr} {re rj : RE}
theorem ms_store (i : Nat) (he : PE X e (tM X.K re)) (ho : PE X o (tVar i)) (hj : PE X j (tMw X.K rj))
    (ha : ∀ v, assign (.Subscript o j spos) X.env v = (do
      let ov ← holding [v] (eval o X.env)
      let iv ← holding [v, ov] (eval j X.env)
      standAt spos
      holding [v, ov, iv] (setItem ov iv v)
      release [v, ov, iv] []) := by intro _; rfl)
    (hs : swapsWithSole [.Subscript o j spos] e pos.line X.env = pure false := by rfl) (hw : swappedStores [.Subscript o j spos] e X.env = pure none := by rfl)
    (h1 : (assignEach [.Subscript o j spos] X.env).map (·.2) = [assign (.Subscript o j spos) X.env] := by rfl) : PS X (.Assign [.Subscript o j spos] e pos) (tMS X.K B (rStore i re rj)) :=
  imS (ps_asg he (pg_sub ho hj set_list ha) hs hw h1) fun D σ H ⟨env, ⟨W, rel, ok, g0, nw⟩, M, hr, en⟩ =>
    ⟨env, W, rel, ok, _, hr, fun d hd v W1 H1 o1 g1 dm => by
      split at hd
      · rename_i ds hi
        obtain ⟨u, eu, own⟩ := rel.op i _ hi
        obtain ⟨a, xs, rfl, fa, ia, ha', dms⟩ := own
        refine ⟨.ref a, eu, env, W1, rel.gr g1, o1, _, hd, fun x hx w W2 H2 o2 g2 wk => ?_⟩
        cases x with
        | int z =>
          obtain ⟨k, rfl, hk, hn⟩ := hx
          have := wk.int
          subst this
          have g := g1.trans g2
          have hH := g.h _ _ ha' ia
          have hl : xs.length = ds.length := dms.length
          exact ⟨a, xs, k, k, rfl, rfl, hH, by unfold ixN; rw [if_pos (by omega), if_pos (by omega)]; rfl, en.nx _ hn _ _ (SR.wr (rel.gr g) o2 (g0.trans g) nw hi eu (g.nf _ _ ha' fa) (g.ns _ _ ha' ia) hH (DmAll.set k (g.dms dms) (g2.dm dm)))⟩
        | _ => exact False.elim hx
      · exact hd.elim⟩
end
def kRepL : K2 := fun x y P => match x, y with
  | .list xs, .int k => (-(2 ^ 63) ≤ k ∧ k < 2 ^ 63 ∧ xs.length * k.toNat ≤ sizeLine) ∧ P (.list (List.replicate k.toNat xs).flatten)
  | _, _ => False
section
variable {X : Cx} {a b : Expr} {ra rb : RE} {pos : Pos}
theorem mrepF (ha : PE X a (tMw X.K ra)) (hb : PE X b (tMw X.K rb)) : PE X (.BinOp a .Mult b pos) (tMf X.K (rOp kRepL ra rb)) :=
  imE (pe_op op_rep ha hb) fun σ H Q ⟨env, W, rel, ok, P, hr, hq⟩ => ⟨env, W, rel, ok, _, hr, fun x hx v W1 H1 ok1 g1 wx => ⟨env, W1, rel.gr g1, ok1, _, hx, fun y hy u W2 H2 ok2 g2 wy => by
    cases x <;> cases y <;> first | exact False.elim hy | skip
    rename_i xs k
    obtain ⟨p, vs, rfl, h1, dms⟩ := (wx.gr g2).lst ok2
    have := wy.int
    subst this
    obtain ⟨⟨k1, k2, k3⟩, hp⟩ := hy
    refine ⟨p, k, vs, rfl, rfl, h1, k1, k2, by rw [dms.length]; exact k3, fun l hl => ?_⟩
    obtain ⟨o3, g3, fr⟩ := freshO ok2 hl (dms.rep k.toNat)
    have g := (g1.trans g2)
    obtain ⟨q, e, hn, own⟩ := fr
    exact hq _ hp _ _ _ o3 (g.trans g3) ⟨q, e, g.none hn, own⟩⟩⟩
end
end MM
set_option Elab.async false
set_option linter.all false
set_option maxRecDepth 100000
set_option maxHeartbeats 1000000
/-! M18: enumerate of a tuple -/
namespace MM
open PySem PySem.Spec PyProof PyProof.Rows L2
theorem tc_enum : TypeCalled "enumerate" "enumerate.__new__" "object.__init__" :=
  ⟨by decide, by with_unfolding_all rfl, ⟨_, _, rfl⟩, by with_unfolding_all rfl, by with_unfolding_all rfl, rfl,
    Slot.of (owner := "object") (n := "__init__") (by with_unfolding_all rfl) (by with_unfolding_all rfl) (by with_unfolding_all rfl) (by with_unfolding_all rfl) (.inl (by with_unfolding_all rfl)) (by with_unfolding_all rfl)⟩
theorem relV_inj {x y : V} {u : Value} (h1 : L2.RelV x u) (h2 : L2.RelV y u) : x = y := by
  cases u <;> cases x <;> cases y <;> simp_all [L2.RelV]
theorem vals_get {xs : List V} {us : List Value} (h : Vals xs us) {i : Nat} {u : Value} (e : us[i]? = some u) : ∃ x, xs[i]? = some x ∧ L2.RelV x u := by
  have hl := h.length
  have hi : i < us.length := by
    false_or_by_contra
    rw [List.getElem?_eq_none (by omega)] at e
    cases e
  obtain ⟨u2, e2, r⟩ := h.get (List.getElem?_eq_getElem (show i < xs.length by omega))
  rw [e] at e2
  cases e2
  exact ⟨_, List.getElem?_eq_getElem (by omega), r⟩
theorem meets_enum1 {v : Value} {o : Obj} {H : Heap → Prop} (b : Begins v o H) : Meets (Builtin.«enumerate.__new__» { pos := [Value.type "enumerate", v] }) fun x R s =>
        H s.heap ∧
          R (Except.ok (Flow.ret (Value.ref (s.heap.push o).objs.size)))
            { heap := (s.heap.push o).push { cls := Value.type "enumerate", data := Data.fields #[Value.none, Value.bool false, Value.ref s.heap.objs.size, rawInt 0, Value.none, Value.none] },
              gens := s.gens, drawn := s.drawn, toks := s.toks, os := s.os } := by
  intro prog w A R s ⟨h, hR⟩
  unfold Builtin.«enumerate.__new__»
  have e1 : Builtin.SmallTypes.newClass "enumerate" { pos := [Value.type "enumerate", v] } = pure (Value.type "enumerate", [v]) := by
    unfold Builtin.SmallTypes.newClass
    with_unfolding_all rfl
  rw [e1]
  refine wpAny_bind (wpAny_pure ?_)
  dsimp only
  rw [if_pos (by decide)]
  refine wpAny_bind ?_
  unfold Builtin.SmallTypes.calledThroughType
  refine wpAny_bind (wpAny_stack fun st _ _ _ => wpAny_pure ?_)
  have fin : wpAny (model prog w) A.in1 (do
      let it ← pyIter v
      let r ← Builtin.SmallTypes.newRecord (Value.type "enumerate") (Builtin.SmallTypes.ownedTupleFields ++ [it, rawInt 0, Value.none, Value.none])
      ret r) (fun fin s' =>
          match fin with
          | Fin.done f => R (Except.ok f) s'
          | Fin.again c' => c'.quiet = true ∧ codeAny (model prog w) A c' R s')
        (fun e s' => R (Except.error e) s') s := by
    refine wpAny_bind (b.iter _ _ _ _ _ _ h ?_)
    refine wpAny_bind ?_
    show wpAny (model prog w) A.in1 (newObj (.type "enumerate") (.fields #[Value.none, Value.bool false, Value.ref s.heap.objs.size, rawInt 0, Value.none, Value.none])) _ _ _
    refine wpAny_newObj_type (wpAny_pure hR) ?_
    show 6 ≤ sizeLine + 2
    rw [sizeLine_eq]; decide
  split
  · split
    · exact wpAny_bind (wpAny_pure (a := (v, (none : Option Value))) fin)
    · exact wpAny_bind (wpAny_pure (a := (v, (none : Option Value))) fin)
  · exact wpAny_bind (wpAny_pure (a := (v, (none : Option Value))) fin)
theorem call_enumB {prog : Program} {w : World} {A : Around} {E : Value → Shared → Prop} {s : Shared} {v : Value} {o : Obj} {H : Heap → Prop} {Q : Value → Shared → Prop} (b : Begins v o H) (h : H s.heap)
    (hq : ∀ h', IsEnum h' (s.heap.objs.size + 1) s.heap.objs.size 0 Value.none → h'.get? s.heap.objs.size = some o → (∀ (b : Addr) (o : Obj), s.heap.get? b = some o → h'.get? b = some o) →
      Q (Value.ref (s.heap.objs.size + 1)) { heap := h', gens := s.gens, drawn := s.drawn, toks := s.toks, os := s.os }) : wpAny (model prog w) A (call (Value.type "enumerate") [v]) Q E s := by
  have hsz : (s.heap.push o).objs.size = s.heap.objs.size + 1 := by simp [Heap.push]
  have g1 : ((s.heap.push o).push { cls := Value.type "enumerate", data := Data.fields #[Value.none, Value.bool false, Value.ref s.heap.objs.size, rawInt 0, Value.none, Value.none] }).get? (s.heap.objs.size + 1) = some { cls := Value.type "enumerate", data := Data.fields #[Value.none, Value.bool false, Value.ref s.heap.objs.size, rawInt 0, Value.none, Value.none] } := by
    rw [← hsz]
    exact Heap.get?_push_size _ rfl
  refine callType_new tc_enum (by decide) rfl (by with_unfolding_all rfl) (fun _ => rfl) rfl (meets_enum1 b) ⟨h, ⟨_, by rw [hsz]; exact g1, rfl⟩, ?_⟩
  rw [hsz]
  exact hq _ g1 (Heap.get?_push_of_some _ (Heap.get?_push_size _ b.free)) fun a u ha => Heap.get?_push_of_some _ (Heap.get?_push_of_some _ ha)
/-- the tuple at a as it stands at each turn, each item in a new pair -/
def IteT (K : PySem.W.Frag) (a : Addr) (n : Nat) : It where
  go i H := i < n ∧ ∃ xs x, SqT K H a xs ∧ xs.length = n ∧ xs[i]? = some x
  yld i H v H' := ∃ T x, v = .ref T ∧ H T = none ∧ H' = upd H T (.tup [.int i, x]) ∧ ∀ xs, SqT K H a xs → xs[i]? = some x
  stop i H := n ≤ i ∧ ∃ xs, SqT K H a xs ∧ xs.length = n
theorem turn_enumT {P : Program} {w : World} {K : PySem.W.Frag} {elts : List Expr} {kk : Nat} {tpos : Pos} (a e it : Addr) (n : Nat) (h1 : a ≠ it) (h2 : a ≠ e) (h3 : e ≠ it) :
    Turn P w K (.Tuple elts kk tpos) (IteT K a n) [e, it] e fun i h => (∃ old, IsEnum h e it (i : Int) old) ∧ h.IsTupleIter it a i ∧ i ≤ n where
  mem := by simp
  obj i h t b hb := by
    obtain ⟨⟨old, he⟩, ⟨o, ho, hc, hd⟩, _⟩ := t
    simp only [List.mem_cons, List.not_mem_nil, or_false] at hb
    rcases hb with rfl | rfl
    · exact ⟨_, he, fun v z => by cases z⟩
    · exact ⟨_, ho, fun v z => by rw [hd] at z; cases z⟩
  keep i h h' t k := by
    obtain ⟨⟨old, he⟩, ⟨o, ho, hc, hd⟩, hi⟩ := t
    exact ⟨⟨old, k e (by simp) _ he⟩, ⟨o, k it (by simp) _ ho, hc, hd⟩, hi⟩
  item X hP hw hK hcalm i pins s σ H E I hfp t g := by
    subst hP hw hK
    obtain ⟨⟨old, he⟩, hit, hi⟩ := t
    obtain ⟨hin, xs, x, hx, hl, hxi⟩ := g
    obtain ⟨its, r, ht, hz⟩ := I.tuple hx
    have hlen := r.length
    have hA : X.A.in1.handled = none := I.ok.hd hcalm
    have G := GoesN.enumFrom (elts := elts) (x1 := kk) (pos := tpos) 0 (Draws.tuple (prog := X.prog) (w := X.w) (A := X.A.in1) hA it a h1 its.toArray) e h3 (by simp [h3]; exact fun z => h2 z.symm) (by simp)
    refine G.goes i s _ _ (by simp; omega) ⟨⟨old, by rw [Int.zero_add]; exact he⟩, hit, ht⟩ fun v h' tk hY hSt hkeep htk => ?_
    obtain ⟨T, t', x0, rfl, hT, hx0, hTup⟩ := hY
    obtain ⟨⟨old2, he2⟩, hit2, _⟩ := hSt
    have hHT : H T = none := I.hok.fresh hT
    obtain ⟨u, hu, ru⟩ := r.get hxi
    have : u = x0 := by
      rw [List.getElem?_toArray, hu] at hx0
      exact Option.some.inj hx0
    subst this
    rw [Int.zero_add] at hTup
    refine ⟨.ref T, upd H T (.tup [.int i, x]), I.turnedNew (ch := [e, it]) (fun b o hb q => hkeep b o hb q) hfp hT ?_, rfl, ⟨T, x, rfl, hHT, rfl, fun ys hy => ?_⟩, ⟨⟨old2, by rw [Int.zero_add] at he2; exact he2⟩, hit2, by omega⟩, fun b hb => ?_⟩
    · exact ⟨by show 2 ≤ sizeLine; rw [sizeLine_eq]; decide, [Value.int i t', u], .cons ⟨t', rfl⟩ (.cons ru .nil), hTup⟩
    · obtain ⟨its2, r2, ht2, _⟩ := I.tuple hy
      obtain ⟨o1, q1, _, n1, d1⟩ := ht
      obtain ⟨o2, q2, _, n2, d2⟩ := ht2
      rw [q1] at q2
      cases q2
      rw [d1] at d2
      have e : its = its2 := by
        have := (Data.seq.inj d2).1
        simpa using this
      subst e
      obtain ⟨y, hy1, ry⟩ := vals_get r2 hu
      rw [hy1, relV_inj ry ru]
    · have hb0 := (hfp b hb).1
      rw [upd_ne]
      · exact hb0
      · simp only [List.mem_cons, List.not_mem_nil, or_false] at hb
        rcases hb with rfl | rfl
        · exact Nat.ne_of_lt (Nat.lt_of_lt_of_le (Heap.lt_size he) hT)
        · obtain ⟨o, ho, _⟩ := hit
          exact Nat.ne_of_lt (Nat.lt_of_lt_of_le (Heap.lt_size ho) hT)
  done X hP hw hK hcalm i pins s σ H E I hfp t g := by
    subst hP hw hK
    obtain ⟨⟨old, he⟩, hit, hi⟩ := t
    obtain ⟨hin, xs, hx, hl⟩ := g
    have hin : i = n := by omega
    subst hin
    obtain ⟨its, r, ht, hz⟩ := I.tuple hx
    have hlen := r.length
    have hA : X.A.in1.handled = none := I.ok.hd hcalm
    have G := GoesN.enumFrom (elts := elts) (x1 := kk) (pos := tpos) 0 (Draws.tuple (prog := X.prog) (w := X.w) (A := X.A.in1) hA it a h1 its.toArray) e h3 (by simp [h3]; exact fun z => h2 z.symm) (by simp)
    have sz : its.toArray.size = i := by simp; omega
    refine G.stops s _ _ ⟨⟨old, by rw [Int.zero_add, sz]; exact he⟩, by rw [sz]; exact hit, ht⟩ fun h' tk hkeep htk => ?_
    exact I.turnedL (ch := [e, it]) (fun b o hb q => hkeep b o hb q) hfp
  self A i s Q E t hq := by
    obtain ⟨⟨old, he⟩, hit, hi⟩ := t
    exact wpAny_pyIter_enum he hq
section
variable {X : Cx}
def iEnumTA (K : PySem.W.Frag) (ta : TA) : TI := fun σ H R => ta σ H fun vs H1 => ∃ a xs, vs = [.ref a] ∧ ((SqL K H1 a xs ∧ R (Ite K a) H1) ∨ (SqT K H1 a xs ∧ R (IteT K a xs.length) H1))
theorem pi_enumA {e : Expr} {ta : TA} {p pos tpos : Pos} {elts : List Expr} {kk : Nat} (hg : Gl X "enumerate") (hm : X.mg "enumerate" = none) (ha : PA X [e] ta) (hs : starEach [e] X.env = [(false, eval e X.env)] := by rfl) :
    PI X (.Tuple elts kk tpos) (.Call (.Name "enumerate" p) [e] [] pos) (iEnumTA X.K ta) := ⟨fun pins s σ H R I h => by
  refine Call_ (ld_blt I hg hm boot_enumerate ?_)
  refine PyProof.Rows.callWith_type1 (thn (ha.run pos pins s σ H _ I h) fun vs s1 ⟨xs, H1, I1, r1, q1⟩ => ?_) hs rfl
  obtain ⟨a, ys, rfl, q⟩ := q1
  obtain ⟨u, rfl, ru⟩ : ∃ u, vs = [u] ∧ L2.RelV (.ref a) u := by
    cases r1 with
    | cons h1 h2 => cases h2; exact ⟨_, rfl, h1⟩
  cases ru
  have fr : ∀ b, s1.heap.objs.size ≤ b → FpOk X pins H1 b := fun b hb => I1.fpOk hb (I1.hok.fresh hb)
  rcases q with ⟨hl, hR⟩ | ⟨ht, hR⟩
  · obtain ⟨its, r, hlst, hz⟩ := I1.list hl
    refine call_enumerate_list hlst.isList fun h' hE hI hsz hk => wpAny_pyIter_enum hE ?_
    exact ⟨_, _, _, _, _, rfl, I1.kept (t' := s1.toks) hk, turn_enum a _ _, ⟨⟨_, hE⟩, hI, Nat.succ_ne_self _⟩, fun b hb => fr b (by
      simp only [List.mem_cons, List.not_mem_nil, or_false] at hb
      rcases hb with rfl | rfl <;> omega), hR⟩
  · obtain ⟨its, r, htup, hz⟩ := I1.tuple ht
    have lt : a < s1.heap.objs.size := by
      obtain ⟨o, ho, _⟩ := htup
      exact Heap.lt_size ho
    refine call_enumB (begins_tuple a its.toArray) htup fun h' hE hI hk => wpAny_pyIter_enum hE ?_
    exact ⟨_, _, _, _, _, rfl, I1.kept (t' := s1.toks) hk, turn_enumT a (s1.heap.objs.size + 1) s1.heap.objs.size ys.length (Nat.ne_of_lt lt) (Nat.ne_of_lt (Nat.lt_succ_of_lt lt)) (Nat.succ_ne_self _), ⟨⟨_, hE⟩, ⟨_, hI, rfl, rfl⟩, Nat.zero_le _⟩, fun b hb => fr b (by
      simp only [List.mem_cons, List.not_mem_nil, or_false] at hb
      rcases hb with rfl | rfl <;> omega), hR⟩⟩
end
section
variable {K : PySem.W.Frag} {W : Wd} {H : Hp}
theorem its_enumT {a : Addr} {xs : List V} {ds : List PyData} (h : SqT K W.F a xs) (dms : DmAll K W xs ds) : ItS K W H (IteT K a xs.length) (enumD 0 ds) := fun W2 H2 ok f s i => by
  have hh : SqT K H2 a xs := SqT.gr (fun a o e => ok.fh _ _ (f _ _ e)) h
  have dm2 : DmAll K W2 xs ds := dms.gr f s
  refine ⟨fun d e => ?_, fun hi => ⟨by rw [dms.length]; rw [enumD_length] at hi; exact hi, xs, hh, rfl⟩⟩
  obtain ⟨y, ey, rfl⟩ := enumD_get e
  obtain ⟨v, ev, dv⟩ := dm2.get ey
  have hlt : i < xs.length := by
    false_or_by_contra
    rw [List.getElem?_eq_none (by omega)] at ev
    cases ev
  refine ⟨⟨hlt, xs, v, hh, rfl, ev⟩, fun x H3 z => ?_⟩
  obtain ⟨T, u, rfl, hT, rfl, hu⟩ := z
  have := hu xs hh
  rw [ev] at this; cases this
  rw [Nat.zero_add]
  exact pair_laid ok hT (.int _) dv
end
section
variable {X : Cx} {e : Expr} {p pos tpos : Pos} {ra : RA}
def iEnumA (ra : RA) : RI := fun env P => ra env fun xs => match xs with
  | [.list ds] => P (enumD 0 ds)
  | [.tuple ds] => P (enumD 0 ds)
  | _ => False
theorem mi_enumA {elts : List Expr} {kk : Nat} {tpos : Pos} (hm : X.mg "enumerate" = none) (ha : PA X [e] (tMA X.K ra)) (hg : Gl X "enumerate" := by rfl) (hs : starEach [e] X.env = [(false, eval e X.env)] := by rfl) :
    PI X (.Tuple elts kk tpos) (.Call (.Name "enumerate" p) [e] [] pos) (tMI X.K ItS (iEnumA ra)) := imI (pi_enumA hg hm ha hs) fun σ H R ⟨env, W, rel, ok, P, hr, hq⟩ => ⟨env, W, rel, ok, _, hr, fun ds p vs W' H' o g dms => by
    match ds, dms, p with
    | [.list ds], .cons (.lst h1 h2) .nil, p => exact ⟨_, _, rfl, .inl ⟨SqL.of (o.fh _ _ h1), hq _ p _ W' H' o g (its_enum h1 h2)⟩⟩
    | [.tuple ds], .cons (.tup h1 h2) .nil, p => exact ⟨_, _, rfl, .inr ⟨SqT.gr o.fh h1, hq _ p _ W' H' o g (its_enumT h1 h2)⟩⟩⟩
end
end MM
set_option Elab.async false
set_option linter.all false
set_option maxRecDepth 100000
set_option maxHeartbeats 1000000
/-! M19: str of a whole number; a store at a place from the end -/
namespace MM
open PySem PySem.Spec PyProof.Rows L2
theorem bb_str : bootBuiltins "str" = some (Value.type "str") := by with_unfolding_all rfl
def kStr : KC := fun xs P => match xs with
  | [.int i] => i.natAbs.log2 < 1920 ∧ P (.str (toString i))
  | _ => False
section
variable {X : Cx}
theorem cm_str : CallM X (.type "str") kStr := by
  intro pins s σ H xs us Q I r ⟨W, ds, P, ok, wa, hk, hq⟩
  unfold kStr at hk
  split at hk
  · obtain ⟨v, rfl, w⟩ := wa.one
    have := w.int; subst this
    exact call_str_int pins s σ H _ us Q I r ⟨_, rfl, hk.1, hq _ hk.2 _ W H ok (Gr.refl _ _) (.str _)⟩
  · exact hk.elim
end
def rStoreI (i : Nat) (re rj : RE) : RS := fun env M => re env fun d => match env[i]? with
  | some (.o (.list ds)) => rj env fun x => match x with
    | .int j => ∃ k : Nat, (j = (k : Int) ∨ j = (k : Int) - (ds.length : Int)) ∧ k < ds.length ∧ M.nx (env.set i (.o (.list (ds.set k d))))
    | _ => False
  | _ => False
section
variable {X : Cx} {B : Bs} {pos spos : Pos} {o e j : Expr} {re rj : RE}
theorem ms_storeI (i : Nat) (he : PE X e (tM X.K re)) (ho : PE X o (tVar i)) (hj : PE X j (tMw X.K rj))
    (ha : ∀ v, assign (.Subscript o j spos) X.env v = (do
      let ov ← holding [v] (eval o X.env)
      let iv ← holding [v, ov] (eval j X.env)
      standAt spos
      holding [v, ov, iv] (setItem ov iv v)
      release [v, ov, iv] []) := by intro _; rfl)
    (hs : swapsWithSole [.Subscript o j spos] e pos.line X.env = pure false := by rfl) (hw : swappedStores [.Subscript o j spos] e X.env = pure none := by rfl)
    (h1 : (assignEach [.Subscript o j spos] X.env).map (·.2) = [assign (.Subscript o j spos) X.env] := by rfl) : PS X (.Assign [.Subscript o j spos] e pos) (tMS X.K B (rStoreI i re rj)) :=
  imS (ps_asg he (pg_sub ho hj set_list ha) hs hw h1) fun D σ H ⟨env, ⟨W, rel, ok, g0, nw⟩, M, hr, en⟩ =>
    ⟨env, W, rel, ok, _, hr, fun d hd v W1 H1 o1 g1 dm => by
      split at hd
      · rename_i ds hi
        obtain ⟨u, eu, own⟩ := rel.op i _ hi
        obtain ⟨a, xs, rfl, fa, ia, ha', dms⟩ := own
        refine ⟨.ref a, eu, env, W1, rel.gr g1, o1, _, hd, fun x hx w W2 H2 o2 g2 wk => ?_⟩
        cases x with
        | int z =>
          obtain ⟨k, hz, hk, hn⟩ := hx
          have := wk.int
          subst this
          have g := g1.trans g2
          have hH := g.h _ _ ha' ia
          have hl : xs.length = ds.length := dms.length
          refine ⟨a, xs, z, k, rfl, rfl, hH, ?_, en.nx _ hn _ _ (SR.wr (rel.gr g) o2 (g0.trans g) nw hi eu (g.nf _ _ ha' fa) (g.ns _ _ ha' ia) hH (DmAll.set k (g.dms dms) (g2.dm dm)))⟩
          unfold ixN
          rcases hz with rfl | rfl
          · rw [if_pos (by omega), if_pos (by omega)]; rfl
          · rw [if_neg (by omega), if_pos (by omega), show ((k : Int) - (ds.length : Int) + (xs.length : Int)).toNat = k by omega]
        | _ => exact False.elim hx
      · exact hd.elim⟩
end
def kAddL : K2 := fun x y P => match x, y with
  | .list xs, .list ys => xs.length + ys.length ≤ sizeLine ∧ P (.list (xs ++ ys))
  | _, _ => False
section
variable {X : Cx} {a b : Expr} {ra rb : RE} {pos : Pos}
theorem maddF (ha : PE X a (tMw X.K ra)) (hb : PE X b (tMw X.K rb)) : PE X (.BinOp a .Add b pos) (tMf X.K (rOp kAddL ra rb)) :=
  imE (pe_op op_cat ha hb) fun σ H Q ⟨env, W, rel, ok, P, hr, hq⟩ => ⟨env, W, rel, ok, _, hr, fun x hx v W1 H1 ok1 g1 wx => ⟨env, W1, rel.gr g1, ok1, _, hx, fun y hy u W2 H2 ok2 g2 wy => by
    cases x <;> cases y <;> first | exact False.elim hy | skip
    rename_i xs ys
    obtain ⟨p, vs, rfl, h1, dms⟩ := (wx.gr g2).lst ok2
    obtain ⟨q, ws, rfl, h2, dms2⟩ := wy.lst ok2
    obtain ⟨k1, hp⟩ := hy
    refine ⟨p, q, vs, ws, rfl, rfl, h1, h2, by rw [dms.length, dms2.length]; exact k1, fun l hl => ?_⟩
    obtain ⟨o3, g3, fr⟩ := freshO ok2 hl (dms.append dms2)
    have g := (g1.trans g2)
    obtain ⟨q, e, hn, own⟩ := fr
    exact hq _ hp _ _ _ o3 (g.trans g3) ⟨q, e, g.none hn, own⟩⟩⟩
end
end MM
set_option Elab.async false
set_option linter.all false
set_option maxRecDepth 100000
set_option maxHeartbeats 1000000
/-! M20: isinstance of a built-in type -/
namespace MM
open PySem PySem.Spec L2
def tyD : PyData → Option String
  | .none => some "NoneType" | .bool _ => some "bool" | .int _ => some "int" | .str _ => some "str" | .list _ => some "list" | .tuple _ => some "tuple" | .dict [] => some "dict" | .dict _ => none
theorem Dm.tyX {K : PySem.W.Frag} {W : Wd} {H : Hp} {v : V} {d : PyData} {t : String} (ok : WOk W H) (h : Dm K W v d) (e : tyD d = some t) : TyX K H v (.type t) := by
  cases d with
  | none => cases e; cases h; exact .base .non
  | bool b => cases e; cases h; exact .base (.bl b)
  | int i => cases e; cases h; exact .base (.int i)
  | str x => cases e; cases h; exact .base (.str x)
  | list ds =>
    cases e
    cases h with
    | lst h1 h2 => exact .base (.lst (ok.fh _ _ h1))
  | tuple ds =>
    cases e
    cases h with
    | tup h1 h2 =>
      rcases SqT.gr ok.fh h1 with (h | ⟨o, h⟩) | ⟨o, its, n, hk, hc, _⟩
      · exact .base (.tup h)
      · exact .fTuple h
      · exact .kTuple hk hc
  | dict ds =>
    cases ds with
    | nil =>
      cases e
      cases h with
      | emp h => exact .base (.dK (ok.fh _ _ h))
    | cons => cases e
theorem Weak.tyX {K : PySem.W.Frag} {W : Wd} {H : Hp} {v : V} {d : PyData} {t : String} (ok : WOk W H) (h : Weak K W H v d) (e : tyD d = some t) : TyX K H v (.type t) := by
  rcases h with h | h
  · exact h.tyX ok e
  · cases d with
    | list ds =>
      cases e
      obtain ⟨a, xs, rfl, _, _, e, h⟩ := h
      exact .base (.lst e)
    | _ => exact h.elim
def IsK (T : String) (k : K1) : Prop := ∀ d P, k d P → ∃ t b, tyD d = some t ∧ kitB t T = some b ∧ P (.bool b)
def kIsTup : K1 := fun d P => match d with | .tuple _ => P (.bool true) | .dict (_ :: _) => False | _ => P (.bool false)
def kIsLst : K1 := fun d P => match d with | .list _ => P (.bool true) | .dict (_ :: _) => False | _ => P (.bool false)
def kIsInt : K1 := fun d P => match d with | .int _ => P (.bool true) | .bool _ => P (.bool true) | .dict (_ :: _) => False | _ => P (.bool false)
def kIsBool : K1 := fun d P => match d with | .bool _ => P (.bool true) | .dict (_ :: _) => False | _ => P (.bool false)
def kIsStr : K1 := fun d P => match d with | .str _ => P (.bool true) | .dict (_ :: _) => False | _ => P (.bool false)
def kIsDict : K1 := fun d P => match d with | .dict (_ :: _) => False | .dict [] => P (.bool true) | _ => P (.bool false)
theorem ik_tup : IsK "tuple" kIsTup := fun d P h => by
  cases d with
  | dict ds => cases ds <;> first | exact h.elim | exact ⟨_, _, rfl, by decide +kernel, h⟩
  | _ => first | exact h.elim | exact ⟨_, _, rfl, by decide +kernel, h⟩
theorem ik_lst : IsK "list" kIsLst := fun d P h => by
  cases d with
  | dict ds => cases ds <;> first | exact h.elim | exact ⟨_, _, rfl, by decide +kernel, h⟩
  | _ => first | exact h.elim | exact ⟨_, _, rfl, by decide +kernel, h⟩
theorem ik_int : IsK "int" kIsInt := fun d P h => by
  cases d with
  | dict ds => cases ds <;> first | exact h.elim | exact ⟨_, _, rfl, by decide +kernel, h⟩
  | _ => first | exact h.elim | exact ⟨_, _, rfl, by decide +kernel, h⟩
theorem ik_bool : IsK "bool" kIsBool := fun d P h => by
  cases d with
  | dict ds => cases ds <;> first | exact h.elim | exact ⟨_, _, rfl, by decide +kernel, h⟩
  | _ => first | exact h.elim | exact ⟨_, _, rfl, by decide +kernel, h⟩
theorem ik_str : IsK "str" kIsStr := fun d P h => by
  cases d with
  | dict ds => cases ds <;> first | exact h.elim | exact ⟨_, _, rfl, by decide +kernel, h⟩
  | _ => first | exact h.elim | exact ⟨_, _, rfl, by decide +kernel, h⟩
theorem ik_dict : IsK "dict" kIsDict := fun d P h => by
  cases d with
  | dict ds => cases ds <;> first | exact h.elim | exact ⟨_, _, rfl, by decide +kernel, h⟩
  | _ => first | exact h.elim | exact ⟨_, _, rfl, by decide +kernel, h⟩
theorem bb_isi : bootBuiltins "isinstance" = some (.builtin "isinstance") := by decide +kernel
theorem bb_bool : bootBuiltins "bool" = some (.type "bool") := by decide +kernel
theorem bb_dict : bootBuiltins "dict" = some (.type "dict") := by with_unfolding_all rfl
section
variable {X : Cx} {e : Expr} {re : RE} {T : String} {k : K1} {p p2 pos : Pos}
theorem misi (hk : IsK T k) (hm : X.mg "isinstance" = none) (hT : X.mg T = none) (hb : bootBuiltins T = some (.type T)) (he : PE X e (tMw X.K re)) (hg : Gl X "isinstance" := by rfl) (hgT : Gl X T := by rfl) (hn : (T : Str) ≠ "__name__" := by decide) (hd : ((T : Str) == ("__debug__" : Str)) = false := by decide)
    (hst : starEach (e :: [.Name T p2]) X.env = (false, eval e X.env) :: starEach [.Name T p2] X.env := by rfl) (hpl : (backTo pos (starEach [.Name T p2] X.env)).any (·.1) = false := by rfl) :
    PE X (.Call (.Name "isinstance" p) [e, .Name T p2] [] pos) (tM X.K (rUn k re)) :=
  imE (pe_callB call_isi hg hm bb_isi (pa_cons (hs := hst) he (pa_cons (pe_bltn hgT hT hb (v := .ty T) rfl hn hd) pa_nil)) (by decide) (by decide) hst hpl) fun σ H Q ⟨env, W, rel, ok, P, hr, hq⟩ => ⟨env, W, rel, ok, _, hr, fun d hd v W1 H1 o1 g1 wx => by
    obtain ⟨t, b, e1, e2, e3⟩ := hk d P hd
    exact ⟨v, .ty T, _, _, b, rfl, .ty T, wx.tyX o1 e1, kit_ty e2, hq _ e3 _ W1 H1 o1 g1 (.bl b)⟩⟩
end
end MM
set_option Elab.async false
set_option linter.all false
set_option maxRecDepth 100000
set_option maxHeartbeats 1000000
/-! M21: a text's join; index of own data; count of ints -/
namespace MM
open PySem PySem.Spec L2
def kJoin (a : Str) : K1 := fun d P => match d with
  | .list ds => ∃ ys : List Str, ds = ys.map PyData.str ∧ (ys.map (·.length)).sum + ys.length * a.length ≤ 16777216 ∧ P (.str (Txt.join a ys))
  | .tuple ds => ∃ ys : List Str, ds = ys.map PyData.str ∧ (ys.map (·.length)).sum + ys.length * a.length ≤ 16777216 ∧ P (.str (Txt.join a ys))
  | _ => False
theorem DmAll.strs {K : PySem.W.Frag} {W : Wd} : ∀ {ns : List Str} {vs : List V}, DmAll K W vs (ns.map PyData.str) → vs = ns.map V.str
  | [], _, h => by cases h; rfl
  | n :: ns, _, h => by
    cases h with
    | cons h1 h2 =>
      cases h1
      rw [DmAll.strs h2]; rfl
section
variable {X : Cx} {e : Expr} {re : RE} {p p2 pos apos : Pos}
theorem mjoin {a : Str} {jj} (he : PE X e (tMw X.K re)) (hs : starEach [e] X.env = [(false, eval e X.env)] := by rfl) (hbase : attributeBase (.Constant (.str a) jj p) "join" X.env (eval (.Constant (.str a) jj p) X.env) = eval (.Constant (.str a) jj p) X.env := by rfl) (hline : (apos.endLine == pos.line) = true := by rfl) :
    PE X (.Call (.Attribute (.Constant (.str a) jj p) "join" apos) [e] [] pos) (tM X.K (rUn (kJoin a) re)) :=
  imE (pe_join pe_str he hs hbase hline) fun σ H Q ⟨env, W, rel, ok, P, hr, hq⟩ => ⟨⟨a, rfl⟩, env, W, rel, ok, _, hr, fun d hd v W1 H1 o1 g1 wx => by
    cases d with
    | list ds =>
      obtain ⟨ys, rfl, h1, h2⟩ := hd
      obtain ⟨q, vs, rfl, h3, dms⟩ := wx.lst o1
      have := dms.strs
      subst this
      exact ⟨a, q, ys, rfl, rfl, .inl (SqL.of h3), h1, hq _ h2 _ W1 H1 o1 g1 (.str _)⟩
    | tuple ds =>
      obtain ⟨ys, rfl, h1, h2⟩ := hd
      obtain ⟨q, vs, rfl, h3, dms, _⟩ := wx.tup o1
      have := dms.strs
      subst this
      exact ⟨a, q, ys, rfl, rfl, .inr h3, h1, hq _ h2 _ W1 H1 o1 g1 (.str _)⟩
    | _ => exact hd.elim⟩
end
end MM
set_option Elab.async false
set_option linter.all false
set_option maxRecDepth 100000
set_option maxHeartbeats 1000000
/-! M22: zip of a list with a tuple, and of a tuple with a list: a kind (true: a tuple) stands with each of the two -/
namespace ZK
open PySem PySem.Spec PyProof.Rows L2
def SI (t : Bool) (h : Heap) (it l : Addr) (i : Nat) : Prop := match t with
  | true => h.IsTupleIter it l i
  | false => h.IsListIter it l i
def SS (t : Bool) (h : Heap) (l : Addr) (items : Array Value) : Prop := match t with
  | true => h.IsTuple l items
  | false => h.IsList l items
def SqB (t : Bool) (K : PySem.W.Frag) (H : Hp) (a : Addr) (xs : List V) : Prop := match t with
  | true => SqT K H a xs
  | false => SqL K H a xs
theorem SI.ext {t : Bool} {h h' : Heap} {a b l : Addr} {i : Nat} (x : SI t h a l i) (hs : Heap.ExtBut b h h') (hab : a ≠ b) : SI t h' a l i := by
  cases t
  · exact Heap.IsListIter.extBut x hs hab
  · exact Heap.IsTupleIter.extBut x hs hab
theorem SI.at {t : Bool} {h h' : Heap} {a l : Addr} {i : Nat} (x : SI t h a l i) (e : ∀ o, h.get? a = some o → h'.get? a = some o) : SI t h' a l i := by
  cases t
  · exact Heap.IsListIter.at x e
  · exact Heap.IsTupleIter.at x e
theorem SI.rec {t : Bool} {h : Heap} {a l : Addr} {i : Nat} (x : SI t h a l i) : ∃ o, h.get? a = some o ∧ ∃ f, o.data = .fields f := by
  cases t
  · obtain ⟨o, e, _, d⟩ := x; exact ⟨o, e, _, d⟩
  · obtain ⟨o, e, _, d⟩ := x; exact ⟨o, e, _, d⟩
theorem SI.lt {t : Bool} {h : Heap} {a l : Addr} {i : Nat} (x : SI t h a l i) : a < h.objs.size := by
  obtain ⟨_, e, _⟩ := x.rec; exact Heap.lt_size e
theorem SS.lt {t : Bool} {h : Heap} {a : Addr} {items : Array Value} (x : SS t h a items) : a < h.objs.size := by
  cases t
  · obtain ⟨o, e, _⟩ := x; exact Heap.lt_size e
  · obtain ⟨o, e, _⟩ := x; exact Heap.lt_size e
theorem SS.ext {t : Bool} {h h' : Heap} {a b : Addr} {items : Array Value} (x : SS t h a items) (hs : Heap.ExtBut b h h') (hab : a ≠ b) : SS t h' a items := by
  cases t
  · exact Heap.IsList.extBut x hs hab
  · exact Heap.IsTuple.extBut x hs hab
section
variable {prog : Program} {w : World} {A : Around} {E : Value → Shared → Prop} {s : Shared}
theorem next_item {t : Bool} {it l : Addr} {i : Nat} {items : Array Value} {x : Value} {Q : Value → Shared → Prop} (hit : SI t s.heap it l i) (hl : SS t s.heap l items) (hx : items[i]? = some x)
    (hQ : ∀ h', SI t h' it l (i + 1) → Heap.SameBut it s.heap h' → Q x { s with heap := h' }) : wpAny (model prog w) A (Builtin.SmallTypes.nextOf (.ref it)) Q E s := by
  cases t
  · exact wpAny_nextOf_list_item hit hl hx hQ
  · exact RZ.nextOf_tuple_item hit hl hx hQ
theorem next_end {t : Bool} {it l : Addr} {i : Nat} {items : Array Value} {Q : Value → Shared → Prop} (hh : A.handled = none) (hit : SI t s.heap it l i) (hl : SS t s.heap l items) (hx : items[i]? = none)
    (hE : ∀ h' e, Heap.ExtBut it s.heap h' → (∃ o, h'.get? e = some o ∧ o.cls = .type "StopIteration") → E (.ref e) { s with heap := h' }) : wpAny (model prog w) A (Builtin.SmallTypes.nextOf (.ref it)) Q E s := by
  cases t
  · exact wpAny_nextOf_list_end hh hit hl hx hE
  · exact RZ.nextOf_tuple_end hh hit hl hx hE
theorem zK_next_item {t1 t2 : Bool} {z TI TO i1 i2 l1 l2 : Addr} {k1 k2 : Nat} {xs ys : Array Value} {x y a b : Value} {Q : Value → Shared → Prop} (D : ZipApart z TI TO i1 i2 l1 l2)
    (hz : IsZip s.heap z TI TO .none) (hTI : IsPair s.heap TI (.ref i1) (.ref i2)) (hTO : IsPair s.heap TO a b)
    (h1 : SI t1 s.heap i1 l1 k1) (h2 : SI t2 s.heap i2 l2 k2) (hl1 : SS t1 s.heap l1 xs) (hl2 : SS t2 s.heap l2 ys) (hx : xs[k1]? = some x) (hy : ys[k2]? = some y)
    (hQ : ∀ h', IsZip h' z TI TO (rawInt s.heap.objs.size) → IsPair h' TO x y → SI t1 h' i1 l1 (k1 + 1) → SI t2 h' i2 l2 (k2 + 1) → IsPair h' s.heap.objs.size x y → h'.objs.size = s.heap.objs.size + 1 →
      (∀ c o, c ≠ z → c ≠ TO → c ≠ i1 → c ≠ i2 → s.heap.get? c = some o → h'.get? c = some o) → Q (.ref s.heap.objs.size) { s with heap := h' }) :
    wpAny (model prog w) A (Builtin.«zip.__next__» ⟨[.ref z], []⟩) (fun fin s' => ∃ v, fin = .done (.ret v) ∧ Q v s') E s := by
  show wpAny _ _ (field (.ref z) 2 >>= _) _ _ _
  refine wpAny_bind (wpAny_field hz rfl (x := .bool false) rfl ?_)
  show wpAny _ _ (field (.ref z) 3 >>= _) _ _ _
  refine wpAny_bind (wpAny_field hz rfl (x := .ref TI) rfl ?_)
  refine wpAny_bind (wpAny_seqItems hTI rfl ?_)
  show wpAny _ _ (Builtin.SmallTypes.ownedTupleIsFree (.ref z) >>= _) _ _ _
  refine wpAny_bind ?_
  unfold Builtin.SmallTypes.ownedTupleIsFree
  refine wpAny_bind (wpAny_field hz rfl (x := .none) rfl (wpAny_pure ?_))
  simp only [if_true]
  refine wpAny_bind (wpAny_rule ?_)
  refine wpAny_bind (wpAny_field hz rfl (x := .ref TO) rfl ?_)
  refine wpAny_bind (wpAny_setField_rec hz (by simp) fun h₁ hz₁ hs₁ => ?_)
  replace hz₁ : IsZip h₁ z TI TO .ellipsis := hz₁
  refine wpAny_bind ?_
  simp only [List.zipIdx_cons, List.zipIdx_nil, List.forIn_cons, List.forIn_nil]

  refine wpAny_bind (wpAny_bind (wpAny_onRaise ?_))
  show wpAny _ _ (Builtin.SmallTypes.nextOf (.ref i1) >>= _) _ _ _
  refine wpAny_bind (next_item (h1.ext hs₁.extBut D.i1z) (hl1.ext hs₁.extBut D.l1z) hx fun h₂ h1₂ hs₂ => wpAny_pure ?_)
  have hTO₂ : IsPair h₂ TO a b := hs₂.extBut _ _ D.TOi1 (hs₁.extBut _ _ D.TOz hTO)
  refine wpAny_bind (wpAny_seqItems hTO₂ rfl ?_)
  refine wpAny_bind (wpAny_updateSeq_pair hTO₂ fun h₃ hTO₃ hs₃ => ?_)
  replace hTO₃ : IsPair h₃ TO x b := hTO₃
  refine wpAny_bind (wpAny_letGo (wpAny_pure ?_))

  refine wpAny_bind (wpAny_bind (wpAny_onRaise ?_))
  show wpAny _ _ (Builtin.SmallTypes.nextOf (.ref i2) >>= _) _ _ _
  refine wpAny_bind (next_item (((h2.ext hs₁.extBut D.i2z).ext hs₂.extBut D.i12.symm).ext hs₃.extBut D.TOi2.symm)
    (((hl2.ext hs₁.extBut D.l2z).ext hs₂.extBut D.l2i1).ext hs₃.extBut D.l2TO) hy fun h₄ h2₄ hs₄ => wpAny_pure ?_)
  have hTO₄ : IsPair h₄ TO x b := hs₄.extBut _ _ D.TOi2 hTO₃
  refine wpAny_bind (wpAny_seqItems hTO₄ rfl ?_)
  refine wpAny_bind (wpAny_updateSeq_pair hTO₄ fun h₅ hTO₅ hs₅ => ?_)
  replace hTO₅ : IsPair h₅ TO x y := hTO₅
  refine wpAny_bind (wpAny_letGo (wpAny_pure (wpAny_pure ?_)))

  refine wpAny_bind (wpAny_seqItems hTO₅ rfl ?_)
  refine wpAny_bind (wpAny_newTuple ?_)
  have hsz : h₅.objs.size = s.heap.objs.size := by rw [hs₅.1, hs₄.1, hs₃.1, hs₂.1, hs₁.1]
  have hz₅ : IsZip h₅ z TI TO .ellipsis := hs₅.extBut _ _ D.TOz.symm (hs₄.extBut _ _ D.i2z.symm (hs₃.extBut _ _ D.TOz.symm (hs₂.extBut _ _ D.i1z.symm hz₁)))
  have hk₅ : ∀ c o, c ≠ z → c ≠ TO → c ≠ i1 → c ≠ i2 → s.heap.get? c = some o → h₅.get? c = some o := fun c o c1 c2 c3 c4 e =>
    hs₅.extBut _ _ c2 (hs₄.extBut _ _ c4 (hs₃.extBut _ _ c2 (hs₂.extBut _ _ c3 (hs₁.extBut _ _ c1 e))))
  have h1₅ : SI t1 h₅ i1 l1 (k1 + 1) := ((h1₂.ext hs₃.extBut D.TOi1.symm).ext hs₄.extBut D.i12).ext hs₅.extBut D.TOi1.symm
  have h2₅ : SI t2 h₅ i2 l2 (k2 + 1) := h2₄.ext hs₅.extBut D.TOi2.symm
  have hzlt : z < h₅.objs.size := Heap.lt_size hz₅
  have hTOlt : TO < h₅.objs.size := Heap.lt_size hTO₅
  have hi1lt : i1 < h₅.objs.size := h1₅.lt
  have hi2lt : i2 < h₅.objs.size := h2₅.lt
  show wpAny _ _ (Builtin.SmallTypes.ownedTupleHandOut (.ref z) (.ref h₅.objs.size) >>= _) _ _ _
  refine wpAny_bind ?_
  unfold Builtin.SmallTypes.ownedTupleHandOut
  have hz₆ : IsZip (h₅.push { cls := .type "tuple", data := .seq #[x, y] }) z TI TO .ellipsis := Heap.get?_push_of_some _ hz₅
  refine wpAny_bind (wpAny_setField_rec hz₆ (by simp) fun h₇ hz₇ hs₇ => ?_)
  replace hz₇ : IsZip h₇ z TI TO (rawInt h₅.objs.size) := hz₇
  refine wpAny_setField_rec hz₇ (by simp) fun h₈ hz₈ hs₈ => ?_
  replace hz₈ : IsZip h₈ z TI TO (rawInt h₅.objs.size) := hz₈
  have up : ∀ c o, c ≠ z → h₅.get? c = some o → h₈.get? c = some o := fun c o c1 e => hs₈.extBut _ _ c1 (hs₇.extBut _ _ c1 (Heap.get?_push_of_some _ e))
  have hT₈ : IsPair h₈ h₅.objs.size x y := hs₈.extBut _ _ (Nat.ne_of_gt hzlt) (hs₇.extBut _ _ (Nat.ne_of_gt hzlt) (Heap.get?_push_size _ rfl))
  have hz8 : h₈.objs.size = h₅.objs.size + 1 := by rw [hs₈.1, hs₇.1, Heap.size_push]
  rw [hsz] at hz₈ hT₈ hz8
  refine wpAny_pure ⟨_, rfl, ?_⟩
  show Q (.ref h₅.objs.size) _
  rw [hsz]
  exact hQ h₈ hz₈ (up _ _ D.TOz hTO₅) (h1₅.at fun o e => up _ o D.i1z e) (h2₅.at fun o e => up _ o D.i2z e) hT₈ hz8 fun c o c1 c2 c3 c4 e => up c o c1 (hk₅ c o c1 c2 c3 c4 e)

theorem zK_next_end {t1 t2 : Bool} {z TI TO i1 i2 l1 l2 : Addr} {k1 k2 : Nat} {xs ys : Array Value} {a b : Value} {Q : Fin → Shared → Prop} (hh : A.handled = none) (D : ZipApart z TI TO i1 i2 l1 l2)
    (hz : IsZip s.heap z TI TO .none) (hTI : IsPair s.heap TI (.ref i1) (.ref i2)) (hTO : IsPair s.heap TO a b)
    (h1 : SI t1 s.heap i1 l1 k1) (h2 : SI t2 s.heap i2 l2 k2) (hl1 : SS t1 s.heap l1 xs) (hl2 : SS t2 s.heap l2 ys) (hend : xs[k1]? = none ∨ ys[k2]? = none)
    (hE : ∀ h' e, (∀ c o, c ≠ z → c ≠ TO → c ≠ i1 → c ≠ i2 → s.heap.get? c = some o → h'.get? c = some o) → (∃ o, h'.get? e = some o ∧ o.cls = .type "StopIteration") → E (.ref e) { s with heap := h' }) :
    wpAny (model prog w) A (Builtin.«zip.__next__» ⟨[.ref z], []⟩) Q E s := by
  show wpAny _ _ (field (.ref z) 2 >>= _) _ _ _
  refine wpAny_bind (wpAny_field hz rfl (x := .bool false) rfl ?_)
  show wpAny _ _ (field (.ref z) 3 >>= _) _ _ _
  refine wpAny_bind (wpAny_field hz rfl (x := .ref TI) rfl ?_)
  refine wpAny_bind (wpAny_seqItems hTI rfl ?_)
  show wpAny _ _ (Builtin.SmallTypes.ownedTupleIsFree (.ref z) >>= _) _ _ _
  refine wpAny_bind ?_
  unfold Builtin.SmallTypes.ownedTupleIsFree
  refine wpAny_bind (wpAny_field hz rfl (x := .none) rfl (wpAny_pure ?_))
  simp only [if_true]
  refine wpAny_bind (wpAny_rule ?_)
  refine wpAny_bind (wpAny_field hz rfl (x := .ref TO) rfl ?_)
  refine wpAny_bind (wpAny_setField_rec hz (by simp) fun h₁ hz₁ hs₁ => ?_)
  replace hz₁ : IsZip h₁ z TI TO .ellipsis := hz₁
  refine wpAny_bind ?_
  simp only [List.zipIdx_cons, List.zipIdx_nil, List.forIn_cons, List.forIn_nil]
  refine wpAny_bind (wpAny_bind (wpAny_onRaise ?_))
  show wpAny _ _ (Builtin.SmallTypes.nextOf (.ref i1) >>= _) _ _ _
  cases hx : xs[k1]? with
  | none =>
    refine wpAny_bind (next_end hh (h1.ext hs₁.extBut D.i1z) (hl1.ext hs₁.extBut D.l1z) hx fun h₂ e hs₂ he => ?_)
    obtain ⟨oe, hoe, hce⟩ := he
    have hz₂ : IsZip h₂ z TI TO .ellipsis := hs₂ _ _ D.i1z.symm hz₁
    have hez : e ≠ z := fun x => by subst x; rw [hz₂] at hoe; cases hoe; simp at hce
    refine wpAny_setField_rec hz₂ (by simp) fun h₃ _ hs₃ => hE h₃ e (fun c o c1 _ c3 _ x => hs₃.extBut _ _ c1 (hs₂ _ _ c3 (hs₁.extBut _ _ c1 x))) ⟨oe, hs₃.extBut _ _ hez hoe, hce⟩
  | some x =>
    have hy : ys[k2]? = none := by rcases hend with h | h; rw [hx] at h; cases h; exact h
    refine wpAny_bind (next_item (h1.ext hs₁.extBut D.i1z) (hl1.ext hs₁.extBut D.l1z) hx fun h₂ h1₂ hs₂ => wpAny_pure ?_)
    have hTO₂ : IsPair h₂ TO a b := hs₂.extBut _ _ D.TOi1 (hs₁.extBut _ _ D.TOz hTO)
    refine wpAny_bind (wpAny_seqItems hTO₂ rfl ?_)
    refine wpAny_bind (wpAny_updateSeq_pair hTO₂ fun h₃ hTO₃ hs₃ => ?_)
    refine wpAny_bind (wpAny_letGo (wpAny_pure ?_))
    refine wpAny_bind (wpAny_bind (wpAny_onRaise ?_))
    show wpAny _ _ (Builtin.SmallTypes.nextOf (.ref i2) >>= _) _ _ _
    refine wpAny_bind (next_end hh (((h2.ext hs₁.extBut D.i2z).ext hs₂.extBut D.i12.symm).ext hs₃.extBut D.TOi2.symm)
      (((hl2.ext hs₁.extBut D.l2z).ext hs₂.extBut D.l2i1).ext hs₃.extBut D.l2TO) hy fun h₄ e hs₄ he => ?_)
    obtain ⟨oe, hoe, hce⟩ := he
    have hz₄ : IsZip h₄ z TI TO .ellipsis := hs₄ _ _ D.i2z.symm (hs₃.extBut _ _ D.TOz.symm (hs₂.extBut _ _ D.i1z.symm hz₁))
    have hez : e ≠ z := fun x => by subst x; rw [hz₄] at hoe; cases hoe; simp at hce
    refine wpAny_setField_rec hz₄ (by simp) fun h₅ _ hs₅ => hE h₅ e (fun c o c1 c2 c3 c4 x => hs₅.extBut _ _ c1 (hs₄ _ _ c4 (hs₃.extBut _ _ c2 (hs₂.extBut _ _ c3 (hs₁.extBut _ _ c1 x))))) ⟨oe, hs₅.extBut _ _ hez hoe, hce⟩

theorem pyNext_zK_item {t1 t2 : Bool} {z TI TO i1 i2 l1 l2 : Addr} {k1 k2 : Nat} {xs ys : Array Value} {x y a b : Value} {Q : Option Value → Shared → Prop} (D : ZipApart z TI TO i1 i2 l1 l2)
    (hz : IsZip s.heap z TI TO .none) (hTI : IsPair s.heap TI (.ref i1) (.ref i2)) (hTO : IsPair s.heap TO a b)
    (h1 : SI t1 s.heap i1 l1 k1) (h2 : SI t2 s.heap i2 l2 k2) (hl1 : SS t1 s.heap l1 xs) (hl2 : SS t2 s.heap l2 ys) (hx : xs[k1]? = some x) (hy : ys[k2]? = some y)
    (hQ : ∀ h', IsZip h' z TI TO (rawInt s.heap.objs.size) → IsPair h' TO x y → SI t1 h' i1 l1 (k1 + 1) → SI t2 h' i2 l2 (k2 + 1) → IsPair h' s.heap.objs.size x y → h'.objs.size = s.heap.objs.size + 1 →
      (∀ c o, c ≠ z → c ≠ TO → c ≠ i1 → c ≠ i2 → s.heap.get? c = some o → h'.get? c = some o) → Q (some (.ref s.heap.objs.size)) { s with heap := h' }) :
    wpAny (model prog w) A (pyNext (.ref z)) Q E s := by
  have hT : s.TypeIs (.ref z) "zip" := ⟨_, hz, rfl⟩
  unfold pyNext
  exact wpAny_bind (wpAny_attempt (wpAny_callSpecial?_slot (name := Str.ofString "__next__") hT F.slot_zip_next
    (wpAny_call_entry F.slot_zip_next hT F.entry_zip_next
      (zK_next_item D hz hTI hTO h1 h2 hl1 hl2 hx hy fun h' a1 a2 a3 a4 a5 a6 a7 => wpAny_pure (hQ h' a1 a2 a3 a4 a5 a6 a7)) (F.args_zip_next_1 _))))

theorem pyNext_zK_end {t1 t2 : Bool} {z TI TO i1 i2 l1 l2 : Addr} {k1 k2 : Nat} {xs ys : Array Value} {a b : Value} {Q : Option Value → Shared → Prop} (hh : A.handled = none) (D : ZipApart z TI TO i1 i2 l1 l2)
    (hz : IsZip s.heap z TI TO .none) (hTI : IsPair s.heap TI (.ref i1) (.ref i2)) (hTO : IsPair s.heap TO a b)
    (h1 : SI t1 s.heap i1 l1 k1) (h2 : SI t2 s.heap i2 l2 k2) (hl1 : SS t1 s.heap l1 xs) (hl2 : SS t2 s.heap l2 ys) (hend : xs[k1]? = none ∨ ys[k2]? = none)
    (hQ : ∀ h', (∀ c o, c ≠ z → c ≠ TO → c ≠ i1 → c ≠ i2 → s.heap.get? c = some o → h'.get? c = some o) → Q none { s with heap := h' }) : wpAny (model prog w) A (pyNext (.ref z)) Q E s := by
  have hT : s.TypeIs (.ref z) "zip" := ⟨_, hz, rfl⟩
  unfold pyNext
  refine wpAny_bind (wpAny_attempt (wpAny_callSpecial?_slot (name := Str.ofString "__next__") hT F.slot_zip_next
    (wpAny_call_entry F.slot_zip_next hT F.entry_zip_next (zK_next_end hh D hz hTI hTO h1 h2 hl1 hl2 hend fun h' e hk he => ?_) (F.args_zip_next_1 _))))
  obtain ⟨o, ho, hc⟩ := he
  refine wpAny_bind (wpAny_isInstance (T := "StopIteration") (b := true) ⟨o, ho, hc⟩ isSubtype_stop ?_)
  exact wpAny_pure (hQ _ hk)
end
/-- two rows as they stand at each turn, the items in new pairs -/
def ItzK (t1 t2 : Bool) (K : PySem.W.Frag) (a b : Addr) : It :=
  ⟨fun i H => ∃ (xs ys : List V) (x y : V), SqB t1 K H a xs ∧ SqB t2 K H b ys ∧ xs[i]? = some x ∧ ys[i]? = some y,
    fun i H v H' => ∃ T x y, v = .ref T ∧ H T = none ∧ H' = upd H T (.tup [x, y]) ∧ (∀ xs, SqB t1 K H a xs → xs[i]? = some x) ∧ ∀ ys, SqB t2 K H b ys → ys[i]? = some y,
    fun i H => ∃ xs ys : List V, SqB t1 K H a xs ∧ SqB t2 K H b ys ∧ (xs.length ≤ i ∨ ys.length ≤ i)⟩
section
variable {X : Cx} {pins : List (Addr × Obj)} {σ : L2.St} {H : Hp} {s : Shared}
theorem sq_plain (I : Inv X pins σ H s) {t : Bool} {a : Addr} {xs : List V} (h : SqB t X.K H a xs) : ∃ its : List Value, Vals xs its ∧ SS t s.heap a its.toArray ∧ xs.length ≤ sizeLine := by
  cases t
  · obtain ⟨its, r, p, z⟩ := I.list h
    exact ⟨its, r, p.isList, z⟩
  · obtain ⟨its, r, p, z⟩ := I.tuple h
    exact ⟨its, r, p, z⟩
theorem sq_inj (I : Inv X pins σ H s) {t : Bool} {a : Addr} {xs ys : List V} (h : SqB t X.K H a xs) (h' : SqB t X.K H a ys) : xs = ys := by
  cases t
  · exact I.list_inj h h'
  · exact I.tuple_inj h h'
end
theorem turn_zK {t1 t2 : Bool} {P : Program} {w : World} {K : PySem.W.Frag} {elts : List Expr} {kk : Nat} {tpos : Pos} {a b z TI TO i1 i2 : Addr} (D : ZipApart z TI TO i1 i2 a b) :
    Turn P w K (.Tuple elts kk tpos) (ItzK t1 t2 K a b) [z, TI, TO, i1, i2] z (fun i h => IsZip h z TI TO .none ∧ IsPair h TI (.ref i1) (.ref i2) ∧ (∃ x y, IsPair h TO x y) ∧ SI t1 h i1 a i ∧ SI t2 h i2 b i) where
  mem := by simp
  obj := fun i h st c hc => by
    obtain ⟨hz, hTI, ⟨x, y, hTO⟩, h1, h2⟩ := st
    obtain ⟨o1, e1, f1, d1⟩ := h1.rec
    obtain ⟨o2, e2, f2, d2⟩ := h2.rec
    have e' : c = z ∨ c = TI ∨ c = TO ∨ c = i1 ∨ c = i2 := by simpa using hc
    rcases e' with q | q | q | q | q
    · rw [q]; exact ⟨_, hz, fun v q => nomatch q⟩
    · rw [q]; exact ⟨_, hTI, fun v q => nomatch q⟩
    · rw [q]; exact ⟨_, hTO, fun v q => nomatch q⟩
    · rw [q]; exact ⟨o1, e1, fun v q => by rw [d1] at q; cases q⟩
    · rw [q]; exact ⟨o2, e2, fun v q => by rw [d2] at q; cases q⟩
  keep := fun i h h' st k => by
    obtain ⟨hz, hTI, ⟨x, y, hTO⟩, h1, h2⟩ := st
    exact ⟨k z (by simp) _ hz, k TI (by simp) _ hTI, ⟨x, y, k TO (by simp) _ hTO⟩, h1.at fun o q => k i1 (by simp) o q, h2.at fun o q => k i2 (by simp) o q⟩
  item := by
    intro X hP hw hK hc i pins s σ H E I hf st hg
    subst hP hw hK
    obtain ⟨hz, hTI, ⟨x0, y0, hTO⟩, h1, h2⟩ := st
    obtain ⟨xs, ys, x, y, hqx, hqy, hx, hy⟩ := hg
    obtain ⟨its, rv, p, _⟩ := sq_plain I hqx
    obtain ⟨its2, rv2, p2, _⟩ := sq_plain I hqy
    obtain ⟨u, hu, ru⟩ := rv.get hx
    obtain ⟨u2, hu2, ru2⟩ := rv2.get hy
    have hzl : z < s.heap.objs.size := Heap.lt_size hz
    refine pyNext_zK_item D hz hTI hTO h1 h2 p p2 (x := u) (y := u2) (by simpa using hu) (by simpa using hu2) fun h' z' TO' h1' h2' hT hsz hk => ?_
    refine ⟨_, rfl, wpAny_letOwnedTupleGo_zip (s := { s with heap := h' }) z' fun h'' z'' sb => ?_⟩
    have hT2 : h''.get? s.heap.objs.size = some { cls := .type "tuple", data := .seq #[u, u2] } := (sb.2 _ (Nat.ne_of_gt hzl)).trans hT
    have new : ObjOk X.prog X.w (upd H s.heap.objs.size (.tup [x, y])) h'' s.heap.objs.size (.tup [x, y]) :=
      ⟨by show 2 ≤ sizeLine; decide, [u, u2], .cons ru (.cons ru2 .nil), ⟨_, hT2, rfl, _, rfl⟩⟩
    have I1 : Inv X pins σ (upd H s.heap.objs.size (.tup [x, y])) { s with heap := h'' } :=
      I.turnedNew (t' := s.toks) (ch := [z, TI, TO, i1, i2]) (fun c o hb q => (sb.2 c (fun q' => hb (by simp [q']))).trans (hk c o (fun q' => hb (by simp [q'])) (fun q' => hb (by simp [q'])) (fun q' => hb (by simp [q'])) (fun q' => hb (by simp [q'])) q)) hf (Nat.le_refl _) new
    refine ⟨.ref s.heap.objs.size, _, I1, rfl, ⟨_, x, y, rfl, I.hok.fresh (Nat.le_refl _), rfl, fun l hl => by rw [sq_inj I hl hqx]; exact hx, fun l hl => by rw [sq_inj I hl hqy]; exact hy⟩, ⟨z'', ?_, ⟨u, u2, ?_⟩, ?_, ?_⟩, fun c hcm => ?_⟩
    · exact (sb.2 _ D.TIz).trans (hk _ _ D.TIz D.TITO D.TIi1 D.TIi2 hTI)
    · exact (sb.2 _ D.TOz).trans TO'
    · exact h1'.at fun o q => (sb.2 _ D.i1z).trans q
    · exact h2'.at fun o q => (sb.2 _ D.i2z).trans q
    · have hlt : c < s.heap.objs.size := by
        have e' : c = z ∨ c = TI ∨ c = TO ∨ c = i1 ∨ c = i2 := by simpa using hcm
        rcases e' with q | q | q | q | q
        · rw [q]; exact hzl
        · rw [q]; exact Heap.lt_size hTI
        · rw [q]; exact Heap.lt_size hTO
        · rw [q]; exact h1.lt
        · rw [q]; exact h2.lt
      rw [upd_ne (Nat.ne_of_lt hlt)]
      exact (hf c hcm).1
  done := by
    intro X hP hw hK hc i pins s σ H E I hf st hg
    subst hP hw hK
    obtain ⟨hz, hTI, ⟨x0, y0, hTO⟩, h1, h2⟩ := st
    obtain ⟨xs, ys, hqx, hqy, hend⟩ := hg
    obtain ⟨its, rv, p, _⟩ := sq_plain I hqx
    obtain ⟨its2, rv2, p2, _⟩ := sq_plain I hqy
    have l1 := rv.length
    have l2 := rv2.length
    have he : its.toArray[i]? = none ∨ its2.toArray[i]? = none := by
      rcases hend with q | q
      · exact .inl (by simp; omega)
      · exact .inr (by simp; omega)
    exact pyNext_zK_end (I.ok.hd hc) D hz hTI hTO h1 h2 p p2 he fun h' hk => ⟨rfl, I.turnedL (t' := s.toks) (ch := [z, TI, TO, i1, i2]) (fun c o hb q =>
      hk c o (fun q' => hb (by simp [q'])) (fun q' => hb (by simp [q'])) (fun q' => hb (by simp [q'])) (fun q' => hb (by simp [q'])) q) hf⟩
  self := fun A i s Q E st h => wpAny_pyIter_zip st.1 h
/-! the call -/
def itN (t : Bool) : String := bif t then "tuple_iterator" else "list_iterator"
abbrev zkH1 (t1 : Bool) (h : Heap) (l1 : Addr) : Heap := h.push { cls := .type (itN t1), data := .fields #[.ref l1, .int 0 0] }
abbrev zkH2 (t1 t2 : Bool) (h : Heap) (l1 l2 : Addr) : Heap := (zkH1 t1 h l1).push { cls := .type (itN t2), data := .fields #[.ref l2, .int 0 0] }
abbrev zkH3 (t1 t2 : Bool) (h : Heap) (l1 l2 : Addr) : Heap := (zkH2 t1 t2 h l1 l2).push { cls := .type "tuple", data := .seq #[.ref h.objs.size, .ref (zkH1 t1 h l1).objs.size] }
abbrev zkH4 (t1 t2 : Bool) (h : Heap) (l1 l2 : Addr) : Heap := (zkH3 t1 t2 h l1 l2).push { cls := .type "tuple", data := .seq #[.none, .none] }
abbrev zkH5 (t1 t2 : Bool) (h : Heap) (l1 l2 : Addr) : Heap := (zkH4 t1 t2 h l1 l2).push { cls := .type "zip", data := .fields #[.none, .bool false, .bool false, .ref (zkH2 t1 t2 h l1 l2).objs.size, .ref (zkH3 t1 t2 h l1 l2).objs.size] }
theorem meets_zK_lt (l1 l2 : Addr) (xs ys : Array Value) :
    Meets (Builtin.«zip.__new__» ⟨[.type "zip", .ref l1, .ref l2], []⟩) (fun _ R s => s.heap.IsList l1 xs ∧ s.heap.IsTuple l2 ys ∧
      R (.ok (.ret (.ref (zkH4 false true s.heap l1 l2).objs.size))) { s with heap := zkH5 false true s.heap l1 l2 }) :=
  .of_wp fun prog w A R s h => by
    obtain ⟨hp, g, d, tk, os⟩ := s; obtain ⟨hl1, hl2, h⟩ := h
    have hsub := sub_zip
    have hL1 : Heap.IsList (Shared.heap ⟨hp, g, d, tk, os⟩) l1 xs := hl1
    have hL2 : Heap.IsTuple (Shared.heap ⟨hp.push { cls := .type "list_iterator", data := .fields #[.ref l1, .int 0 0] }, g, d, tk, os⟩) l2 ys := Heap.IsTuple.push hl2 _
    wp_walk using wpAny_pyIter_list hL1, wpAny_pyIter_tuple hL2
    exact ⟨_, rfl, h⟩
theorem meets_zK_tl (l1 l2 : Addr) (xs ys : Array Value) :
    Meets (Builtin.«zip.__new__» ⟨[.type "zip", .ref l1, .ref l2], []⟩) (fun _ R s => s.heap.IsTuple l1 xs ∧ s.heap.IsList l2 ys ∧
      R (.ok (.ret (.ref (zkH4 true false s.heap l1 l2).objs.size))) { s with heap := zkH5 true false s.heap l1 l2 }) :=
  .of_wp fun prog w A R s h => by
    obtain ⟨hp, g, d, tk, os⟩ := s; obtain ⟨hl1, hl2, h⟩ := h
    have hsub := sub_zip
    have hL1 : Heap.IsTuple (Shared.heap ⟨hp, g, d, tk, os⟩) l1 xs := hl1
    have hL2 : Heap.IsList (Shared.heap ⟨hp.push { cls := .type "tuple_iterator", data := .fields #[.ref l1, .int 0 0] }, g, d, tk, os⟩) l2 ys := Heap.IsList.push hl2 _
    wp_walk using wpAny_pyIter_tuple hL1, wpAny_pyIter_list hL2
    exact ⟨_, rfl, h⟩
theorem meets_zK (t : Bool) (l1 l2 : Addr) (xs ys : Array Value) :
    Meets (Builtin.«zip.__new__» ⟨[.type "zip", .ref l1, .ref l2], []⟩) (fun _ R s => SS t s.heap l1 xs ∧ SS (!t) s.heap l2 ys ∧
      R (.ok (.ret (.ref (zkH4 t (!t) s.heap l1 l2).objs.size))) { s with heap := zkH5 t (!t) s.heap l1 l2 }) := by
  cases t
  · exact meets_zK_lt l1 l2 xs ys
  · exact meets_zK_tl l1 l2 xs ys
theorem SI.new {t : Bool} {h : Heap} {a l : Addr} (g : h.get? a = some { cls := .type (itN t), data := .fields #[.ref l, .int 0 0] }) : SI t h a l 0 := by
  cases t
  · exact ⟨_, g, rfl, rfl⟩
  · exact ⟨_, g, rfl, rfl⟩
section
variable {prog : Program} {w : World} {A : Around} {E : Value → Shared → Prop} {s : Shared}
theorem call_zK {t : Bool} {l1 l2 : Addr} {xs ys : Array Value} {Q : Value → Shared → Prop} (hl1 : SS t s.heap l1 xs) (hl2 : SS (!t) s.heap l2 ys)
    (h : ∀ h', IsZip h' (s.heap.objs.size + 4) (s.heap.objs.size + 2) (s.heap.objs.size + 3) .none → IsPair h' (s.heap.objs.size + 2) (.ref s.heap.objs.size) (.ref (s.heap.objs.size + 1)) →
      IsPair h' (s.heap.objs.size + 3) .none .none → SI t h' s.heap.objs.size l1 0 → SI (!t) h' (s.heap.objs.size + 1) l2 0 →
      (∀ c o, s.heap.get? c = some o → h'.get? c = some o) → Q (.ref (s.heap.objs.size + 4)) { s with heap := h' }) :
    wpAny (model prog w) A (call (.type "zip") [.ref l1, .ref l2]) Q E s := by
  refine callType_new F.called_zip (by decide) (F.typeCall_zip_2 _ _) (F.newCall_zip_2 _ _) (fun obj => F.args_object_init_3 obj _ _) F.entry_zip_new
    (meets_zK t l1 l2 xs ys) ⟨hl1, hl2, ?_⟩
  have z1 : (zkH1 t s.heap l1).objs.size = s.heap.objs.size + 1 := Heap.size_push ..
  have z2 : (zkH2 t (!t) s.heap l1 l2).objs.size = s.heap.objs.size + 2 := by rw [Heap.size_push, z1]
  have z3 : (zkH3 t (!t) s.heap l1 l2).objs.size = s.heap.objs.size + 3 := by rw [Heap.size_push, z2]
  have z4 : (zkH4 t (!t) s.heap l1 l2).objs.size = s.heap.objs.size + 4 := by rw [Heap.size_push, z3]
  have g5 : (zkH5 t (!t) s.heap l1 l2).get? (zkH4 t (!t) s.heap l1 l2).objs.size = some _ := Heap.get?_push_size _ rfl
  have g4 : (zkH5 t (!t) s.heap l1 l2).get? (zkH3 t (!t) s.heap l1 l2).objs.size = some _ := Heap.get?_push_of_some _ (Heap.get?_push_size _ rfl)
  have g3 : (zkH5 t (!t) s.heap l1 l2).get? (zkH2 t (!t) s.heap l1 l2).objs.size = some _ := Heap.get?_push_of_some _ (Heap.get?_push_of_some _ (Heap.get?_push_size _ rfl))
  have g2 : (zkH5 t (!t) s.heap l1 l2).get? (zkH1 t s.heap l1).objs.size = some _ := Heap.get?_push_of_some _ (Heap.get?_push_of_some _ (Heap.get?_push_of_some _ (Heap.get?_push_size _ rfl)))
  have g1 : (zkH5 t (!t) s.heap l1 l2).get? s.heap.objs.size = some _ := Heap.get?_push_of_some _ (Heap.get?_push_of_some _ (Heap.get?_push_of_some _ (Heap.get?_push_of_some _ (Heap.get?_push_size _ rfl))))
  show _ ∧ _
  rw [z2, z3, z4] at g5
  rw [z1, z2] at g3
  rw [z3] at g4
  rw [z1] at g2
  rw [z4]
  exact ⟨⟨_, g5, rfl⟩, h _ g5 g3 g4 (SI.new g1) (SI.new g2) fun c o x =>
    Heap.get?_push_of_some _ (Heap.get?_push_of_some _ (Heap.get?_push_of_some _ (Heap.get?_push_of_some _ (Heap.get?_push_of_some _ x))))⟩
end
def iZipK (K : PySem.W.Frag) (ta : TA) : TI := fun σ H R => ta σ H fun vs H1 => ∃ a b xs ys, vs = [.ref a, .ref b] ∧
  ((SqL K H1 a xs ∧ SqL K H1 b ys ∧ R (Itz K a b) H1) ∨ (SqT K H1 a xs ∧ SqT K H1 b ys ∧ R (RZ.ItzT K a b) H1) ∨ ∃ t, SqB t K H1 a xs ∧ SqB (!t) K H1 b ys ∧ R (ItzK t (!t) K a b) H1)
theorem pi_zipK {X : Cx} {e e2 : Expr} {ta : TA} {p pos tpos : Pos} {elts : List Expr} {kk : Nat} (hg : Gl X "zip") (hm : X.mg "zip" = none) (ha : PA X [e, e2] ta)
    (hs : starEach [e, e2] X.env = (false, eval e X.env) :: starEach [e2] X.env := by rfl) (hpl : (backTo pos (starEach [e2] X.env)).any (·.1) = false := by rfl) :
    PI X (.Tuple elts kk tpos) (.Call (.Name "zip" p) [e, e2] [] pos) (iZipK X.K ta) := by
  refine ⟨fun pins s σ H R I h => ?_⟩
  refine Call_ (ld_blt I hg hm PyProof.Rows.boot_zip (PyProof.Rows.callWith_type1 (thn (ha.run pos pins s σ H _ I h) fun us s1 ⟨vs, H1, I1, r1, q1⟩ => ?_) hs hpl))
  obtain ⟨a, b, xs, ys, ex, q1⟩ := q1
  subst ex
  cases r1 with
  | cons r rr =>
    cases rr with
    | cons r' rr =>
      cases rr
      cases r
      cases r'
      have fresh5 : ∀ c, c ∈ [s1.heap.objs.size + 4, s1.heap.objs.size + 2, s1.heap.objs.size + 3, s1.heap.objs.size, s1.heap.objs.size + 1] → FpOk X pins H1 c := fun c hcm => by
        have hle : s1.heap.objs.size ≤ c := by
          simp only [List.mem_cons, List.not_mem_nil, or_false] at hcm
          rcases hcm with z | z | z | z | z <;> rw [z] <;> first | exact Nat.le_refl _ | exact Nat.le_add_right _ _
        exact I1.fpOk hle (I1.hok.fresh hle)
      rcases q1 with ⟨hqx, hqy, q⟩ | ⟨hqx, hqy, q⟩ | ⟨t, hqx, hqy, q⟩
      · obtain ⟨its, rv, p1, _⟩ := I1.list hqx
        obtain ⟨its2, rv2, p2, _⟩ := I1.list hqy
        refine call_zip_2 p1.isList p2.isList fun h' hz hTI hTO h1 h2 hsz hk => wpAny_pyIter_zip hz ?_
        have I2 : Inv X pins σ H1 { s1 with heap := h' } := I1.kept (t' := s1.toks) hk
        exact ⟨s1.heap.objs.size + 4, [s1.heap.objs.size + 4, s1.heap.objs.size + 2, s1.heap.objs.size + 3, s1.heap.objs.size, s1.heap.objs.size + 1], _, _, H1, rfl, I2, turn_zip (PySem.W.ktu_apart s1.heap.objs.size a b p1.lt p2.lt), ⟨hz, hTI, ⟨_, _, hTO⟩, h1, h2⟩, fresh5, q⟩
      · obtain ⟨its, rv, p1, _⟩ := I1.tuple hqx
        obtain ⟨its2, rv2, p2, _⟩ := I1.tuple hqy
        obtain ⟨o1, ho1, _⟩ := id p1
        obtain ⟨o2, ho2, _⟩ := id p2
        refine RZ.call_zipT (show s1.heap.IsTuple a its.toArray from p1) (show s1.heap.IsTuple b its2.toArray from p2) fun h' hz hTI hTO h1 h2 hsz hk => wpAny_pyIter_zip hz ?_
        have I2 : Inv X pins σ H1 { s1 with heap := h' } := I1.kept (t' := s1.toks) hk
        exact ⟨s1.heap.objs.size + 4, [s1.heap.objs.size + 4, s1.heap.objs.size + 2, s1.heap.objs.size + 3, s1.heap.objs.size, s1.heap.objs.size + 1], _, _, H1, rfl, I2, RZ.turn_zipT (PySem.W.ktu_apart s1.heap.objs.size a b (Heap.lt_size ho1) (Heap.lt_size ho2)), ⟨hz, hTI, ⟨_, _, hTO⟩, h1, h2⟩, fresh5, q⟩
      · obtain ⟨its, rv, p1, _⟩ := sq_plain I1 hqx
        obtain ⟨its2, rv2, p2, _⟩ := sq_plain I1 hqy
        have l1 : a < s1.heap.objs.size := p1.lt
        have l2 : b < s1.heap.objs.size := p2.lt
        refine call_zK p1 p2 fun h' hz hTI hTO h1 h2 hk => wpAny_pyIter_zip hz ?_
        have I2 : Inv X pins σ H1 { s1 with heap := h' } := I1.kept (t' := s1.toks) hk
        exact ⟨s1.heap.objs.size + 4, [s1.heap.objs.size + 4, s1.heap.objs.size + 2, s1.heap.objs.size + 3, s1.heap.objs.size, s1.heap.objs.size + 1], _, _, H1, rfl, I2, turn_zK (PySem.W.ktu_apart s1.heap.objs.size a b l1 l2), ⟨hz, hTI, ⟨_, _, hTO⟩, h1, h2⟩, fresh5, q⟩
end ZK
namespace MM
open PySem L2
section
variable {K : PySem.W.Frag} {W : Wd} {H : Hp}
theorem its_zipK {t1 t2 : Bool} {a b : Addr} {xs ys : List V} {ds es : List PyData} (h : ∀ W2 H2, WOk W2 H2 → (∀ a o, W.F a = some o → W2.F a = some o) → ZK.SqB t1 K H2 a xs) (dms : DmAll K W xs ds) (h2 : ∀ W2 H2, WOk W2 H2 → (∀ a o, W.F a = some o → W2.F a = some o) → ZK.SqB t2 K H2 b ys) (dms2 : DmAll K W ys es) : ItS K W H (ZK.ItzK t1 t2 K a b) (zipD ds es) := fun W2 H2 ok f s i => by
  have hh := h W2 H2 ok f
  have hh2 := h2 W2 H2 ok f
  have dm2 : DmAll K W2 xs ds := dms.gr f s
  have dm3 : DmAll K W2 ys es := dms2.gr f s
  refine ⟨fun d e => ?_, fun hi => ⟨xs, ys, hh, hh2, by rw [dms.length, dms2.length]; rw [zipD_length] at hi; omega⟩⟩
  obtain ⟨x, y, ex, ey, rfl⟩ := zipD_get e
  obtain ⟨v, ev, dv⟩ := dm2.get ex
  obtain ⟨u, eu, du⟩ := dm3.get ey
  refine ⟨⟨xs, ys, v, u, hh, hh2, ev, eu⟩, fun z H3 q => ?_⟩
  obtain ⟨T, v', u', rfl, hT, rfl, h1, h2⟩ := q
  have := h1 xs hh
  rw [ev] at this; cases this
  have := h2 ys hh2
  rw [eu] at this; cases this
  exact pair_laid ok hT dv du
end
section
variable {X : Cx} {e : Expr} {p pos tpos : Pos} {ra : RA}
def iZipX (ra : RA) : RI := fun env P => ra env fun xs => match xs with
  | [.list ds, .list es] => P (zipD ds es)
  | [.tuple ds, .tuple es] => P (zipD ds es)
  | [.list ds, .tuple es] => P (zipD ds es)
  | [.tuple ds, .list es] => P (zipD ds es)
  | _ => False
theorem mi_zipX {e2 : Expr} {elts : List Expr} {kk : Nat} {tpos : Pos} (hm : X.mg "zip" = none) (ha : PA X [e, e2] (tMA X.K ra)) (hg : Gl X "zip" := by rfl) (hs : starEach [e, e2] X.env = (false, eval e X.env) :: starEach [e2] X.env := by rfl)
    (hpl : (backTo pos (starEach [e2] X.env)).any (·.1) = false := by rfl) : PI X (.Tuple elts kk tpos) (.Call (.Name "zip" p) [e, e2] [] pos) (tMI X.K ItS (iZipX ra)) :=
  imI (ZK.pi_zipK hg hm ha hs hpl) fun σ H R ⟨env, W, rel, ok, P, hr, hq⟩ => ⟨env, W, rel, ok, _, hr, fun ds p vs W' H' o g dms => by
    match ds, dms, p with
    | [.list ds, .list es], .cons (.lst h1 h2) (.cons (.lst h3 h4) .nil), p => exact ⟨_, _, _, _, rfl, .inl ⟨SqL.of (o.fh _ _ h1), SqL.of (o.fh _ _ h3), hq _ p _ W' H' o g (its_zip h1 h2 h3 h4)⟩⟩
    | [.tuple ds, .tuple es], .cons (.tup h1 h2) (.cons (.tup h3 h4) .nil), p => exact ⟨_, _, _, _, rfl, .inr (.inl ⟨SqT.gr o.fh h1, SqT.gr o.fh h3, hq _ p _ W' H' o g (its_zipT h1 h2 h3 h4)⟩)⟩
    | [.list ds, .tuple es], .cons (.lst h1 h2) (.cons (.tup h3 h4) .nil), p => exact ⟨_, _, _, _, rfl, .inr (.inr ⟨false, SqL.of (o.fh _ _ h1), SqT.gr o.fh h3, hq _ p _ W' H' o g (its_zipK (t1 := false) (t2 := true) (fun W2 H2 ok f => SqL.of (ok.fh _ _ (f _ _ h1))) h2 (fun W2 H2 ok f => SqT.gr (fun a o e => ok.fh _ _ (f _ _ e)) h3) h4)⟩)⟩
    | [.tuple ds, .list es], .cons (.tup h1 h2) (.cons (.lst h3 h4) .nil), p => exact ⟨_, _, _, _, rfl, .inr (.inr ⟨true, SqT.gr o.fh h1, SqL.of (o.fh _ _ h3), hq _ p _ W' H' o g (its_zipK (t1 := true) (t2 := false) (fun W2 H2 ok f => SqT.gr (fun a o e => ok.fh _ _ (f _ _ e)) h1) h2 (fun W2 H2 ok f => SqL.of (ok.fh _ _ (f _ _ h3))) h4)⟩)⟩⟩
end
end MM
set_option Elab.async false
set_option linter.all false
set_option maxRecDepth 100000
set_option maxHeartbeats 1000000
/-! M23: x in a list of values of any depth -/
namespace MM
open PySem PySem.Spec L2
theorem MX.hu5 {X : Cx} {k : Nat} (m : MX X k) : X.A.units + 65 < cLine := by have := m.room.un; omega
def kInD (neg : Bool) : K2 := fun x y P => match y with
  | .list ds => SeqAt.shaped x = true ∧ SeqAt.shaped (.list ds) = true ∧ P (.bool (if neg then !ds.any (fun z => PyData.eqv z x) else ds.any fun z => PyData.eqv z x))
  | _ => False
section
variable {X : Cx} {n : Nat}
theorem om_inD (m : MX X n) : OpM X (compareOp .In) (kInD false) := by
  intro pins s σ H x y v u Q I rx ry ⟨W, d, e, P, ok, wx, wy, q, hq⟩
  cases e with
  | list ds =>
    obtain ⟨h1, h2, p⟩ := q
    exact op_inD m.hu5 pins s σ H x y v u Q I rx ry ⟨d, ds, wx.dp ok (SeqAt.canLay_of_shaped h1), wy.dp ok (SeqAt.canLay_of_shaped h2), h1, h2, hq _ p _ W H ok (Gr.refl W H) (.bl _)⟩
  | _ => exact False.elim q
theorem om_notinD (m : MX X n) : OpM X (compareOp .NotIn) (kInD true) := by
  intro pins s σ H x y v u Q I rx ry ⟨W, d, e, P, ok, wx, wy, q, hq⟩
  cases e with
  | list ds =>
    obtain ⟨h1, h2, p⟩ := q
    exact op_notInD m.hu5 pins s σ H x y v u Q I rx ry ⟨d, ds, wx.dp ok (SeqAt.canLay_of_shaped h1), wy.dp ok (SeqAt.canLay_of_shaped h2), h1, h2, hq _ p _ W H ok (Gr.refl W H) (.bl _)⟩
  | _ => exact False.elim q
end
end MM
set_option Elab.async false
set_option linter.all false
set_option maxRecDepth 100000
set_option maxHeartbeats 1000000
/-! M24: constants of the module; slices and multiples of texts -/
namespace MM
open PySem PySem.Spec L2
/-! ### constants -/
structure ConAt (K : PySem.W.Frag) (mg : Str → Option Value) (x : Str) (d : PyData) : Prop where
  ex : ∃ v u, mg x = some u ∧ RelV v u ∧ ∀ W, Dm K W v d
section
variable {X : Cx} {x : Str} {d : PyData} {pos : Pos}
theorem mglo (c : ConAt X.K X.mg x d) (hg : Gl X x := by rfl) (hd : (x == ("__debug__" : Str)) = false := by decide) : PE X (.Name x pos) (tM X.K (rC d)) := by
  obtain ⟨v, u, hm, r, h⟩ := c.ex
  exact imE (pe_glob hg hm r hd) fun σ H Q ⟨env, W, rel, ok, P, hr, hq⟩ => hq _ hr _ W H ok (Gr.refl W H) (h W)
end
section
variable {K : PySem.W.Frag} {mg : Str → Option Value} {x : Str}
theorem con_int {i : Int} {t : Tok} (e : mg x = some (.int i t)) : ConAt K mg x (.int i) := ⟨.int i, _, e, ⟨t, rfl⟩, fun _ => .int i⟩
theorem con_ref {a : Addr} {d : PyData} (e : mg x = some (.ref a)) (h : ∀ W, Dm K W (.ref a) d) : ConAt K mg x d := ⟨.ref a, _, e, rfl, h⟩
theorem dmk_tup {a : Addr} {dd : Option Addr} {its : Array Value} {n : Nat} {sl : Array (Option Value)} {xs : List V} {ds : List PyData} (l : K.lookup a = some ⟨.type "tuple", dd, .seq its n, sl⟩) (hs : its.size ≤ sizeLine) (hv : Vals xs its.toList) (hd : ∀ W, DmAll K W xs ds) (W : Wd) : Dm K W (.ref a) (.tuple ds) :=
  .tup (.inr ⟨_, its, n, l, rfl, rfl, hs, hv⟩) (hd W)
theorem rv_int {i : Int} {t : Tok} : RelV (.int i) (.int i t) := ⟨t, rfl⟩
theorem rv_ref {a : Addr} : RelV (.ref a) (.ref a) := rfl
end
/-! ### texts -/
section
variable {X : Cx}
theorem op_mulS : OpR X (binaryOp .Mult) (fun x y H Q => ∃ z k, x = .str z ∧ y = .int k ∧ MulOk z k ∧ Q (.str (Txt.mul z k)) H) := by
  intro pins s σ H x y v u Q I rx ry ⟨z, k, hx, hy, ok, q⟩
  subst hx hy
  obtain ⟨t, rfl⟩ := rx
  obtain ⟨t2, rfl⟩ := ry
  exact SB.mul ok fun t' k => ⟨.str _, H, I.tok k, ⟨t', rfl⟩, q⟩
theorem fold_app (l : List Nat) : ∀ (n : Nat) (acc : Array Nat), ((List.replicate n l.toArray).foldl (· ++ ·) acc) = ⟨acc.toList ++ (List.replicate n l).flatten⟩
  | 0, acc => by simp
  | n + 1, acc => by
    rw [List.replicate_succ, List.foldl_cons, fold_app l n, List.replicate_succ, List.flatten_cons]
    simp
def repS (z : Str) (k : Int) : Str := ⟨(List.replicate k.toNat z.cps.toList).flatten.toArray⟩
theorem mul_rep (z : Str) (k : Int) : Txt.mul z k = repS z k := by
  unfold Txt.mul repS
  by_cases h : k < 1
  · rw [if_pos h, show k.toNat = 0 by omega]; rfl
  · rw [if_neg h]
    by_cases h2 : (k == 1 || z.length == 0) = true
    · rw [if_pos h2]
      rw [Bool.or_eq_true] at h2
      rcases h2 with h2 | h2
      · have : k = 1 := by simpa using h2
        subst this
        show z = ⟨(List.replicate 1 z.cps.toList).flatten.toArray⟩
        simp
      · have h3 : z.cps.size = 0 := by have : z.length = 0 := by simpa using h2
                                       exact this
        have h4 : z.cps = #[] := Array.eq_empty_of_size_eq_zero h3
        obtain ⟨c⟩ := z
        subst h4
        simp
    · rw [if_neg h2]
      have := fold_app z.cps.toList k.toNat #[]
      rw [Array.toArray_toList] at this
      rw [this]
      simp
def kRepS : K2 := fun x y P => match x, y with
  | .str z, .int k => (-(2 ^ 62) ≤ k ∧ k < 2 ^ 62 ∧ z.length * k.toNat ≤ 1000000) ∧ P (.str (repS z k))
  | _, _ => False
theorem mulok_of {z : Str} {k : Int} (h0 : -(2 ^ 62) ≤ k) (h1 : k < 2 ^ 62) (h2 : z.length * k.toNat ≤ 1000000) : MulOk z k := by
  refine ⟨?_, fun a b c => ?_, fun a b => ?_⟩
  · simp; omega
  · have k1 : 1 ≤ k := by omega
    have e : (z.length : Int) * k ≤ 1000000 := by
      obtain ⟨m, rfl⟩ := Int.eq_ofNat_of_zero_le (show 0 ≤ k by omega)
      simp only [Int.toNat_natCast] at h2
      have : ((z.length * m : Nat) : Int) ≤ 1000000 := by omega
      rwa [Int.natCast_mul] at this
    have : (z.length : Int) ≤ (2 ^ 63 - 1) / k := by
      rw [Int.le_ediv_iff_mul_le (by omega)]
      omega
    omega
  · unfold PySem.Builtin.Str.tooLong
    have := sizeLine_eq
    simp
    omega
theorem om_repS : OpM X (binaryOp .Mult) kRepS := by
  intro pins s σ H x y v u Q I rx ry ⟨W, d, e, P, ok, wx, wy, hk, hq⟩
  cases d <;> cases e <;> first | exact False.elim hk | skip
  rename_i z k
  have := wx.str; subst this
  have := wy.int; subst this
  obtain ⟨⟨k1, k2, k3⟩, hp⟩ := hk
  exact op_mulS pins s σ H _ _ v u Q I rx ry ⟨z, k, rfl, rfl, mulok_of k1 k2 k3, by rw [mul_rep]; exact hq _ hp _ W H ok (Gr.refl W H) (.str _)⟩
def rSlStr (re : RE) (lo hi : RO) : RE := fun env P => re env fun x => lo env fun l => hi env fun h => match x with
  | .str z => z.length ≤ sizeLine ∧ P (.str (cutS z l h))
  | _ => False
variable {e : Expr} {re : RE} {pos p2 : Pos}
theorem mslS {lo hi : Option Expr} {rl rh : RO} (he : PE X e (tMw X.K re)) (hl : PO X lo (tMO X.K rl)) (hh : PO X hi (tMO X.K rh)) : PE X (.Subscript e (.Slice lo hi none p2) pos) (tM X.K (rSlStr re rl rh)) :=
  imE (pe_slice sl_str he hl hh) fun σ H Q ⟨env, W, rel, ok, P, hr, hq⟩ => ⟨env, W, rel, ok, _, hr, fun x px v W1 H1 o1 g1 wx => ⟨env, W1, rel.gr g1, o1, _, px, fun l pl W2 H2 o2 g2 => ⟨env, W2, (rel.gr g1).gr g2, o2, _, pl, fun h ph W3 H3 o3 g3 => by
    have g := (g1.trans g2).trans g3
    cases x with
    | str z =>
      have := wx.str; subst this
      exact ⟨z, rfl, ph.1, hq _ ph.2 _ W3 H3 o3 g (.str _)⟩
    | _ => exact False.elim ph⟩⟩⟩
end
end MM
set_option Elab.async false
set_option linter.all false
set_option maxRecDepth 100000
set_option maxHeartbeats 1000000
/-! M25: a list extended by a tuple -/
namespace PySem
open Sem (wp)
open Builtin AutoSeq1
theorem mm_extend_tup (l : Addr) (items : Array Value) (n : Nat) (b : Addr) (dd : Option Addr) (sl : Array (Option Value)) (items2 : Array Value) (n2 : Nat) (hs0 : ¬(!items.isEmpty && Builtin.List.listTooLong (items.size + items2.size)) = true) (hs1 : items.size ≤ sizeLine) (hs2 : items.size + items2.size ≤ sizeLine + 1 := by seq_fits) :
    Meets (Builtin.«list.extend» ⟨[.ref l, .ref b], []⟩) (fun _ R s => s.heap.get? l = some { cls := .type "list", dict := none, data := .seq items n, slots := #[] } ∧ s.heap.get? b = some { cls := .type "tuple", dict := dd, data := .seq items2 n2, slots := sl } ∧ R (.ok (.ret Value.none)) { s with heap := s.heap.update l (Obj.mapSeq fun x => x ++ items2), toks := s.toks }) :=
  .of_wp fun prog w A R s h => by
    obtain ⟨hp, g, d, tk, os⟩ := s; obtain ⟨hl, hb, h⟩ := h; have f1 := idx_int; have f2 := sub_tuple_tuple; have f3 := sub_list_list; have f4 := sub_tuple_list; have f5 := sub_list_tuple;
    have hz' : (items ++ items2).size ≤ sizeLine + 1 := by rw [Array.size_append]; exact hs2
    wp_walk using (wpAny_updateSeq hl rfl (hz := hs1) (_hz' := hz')), wpAny_loadPart' hl, wpAny_loadPart' hb; exact ⟨_, rfl, h⟩
end PySem
namespace MM
open PySem PySem.Spec L2
section
variable {X : Cx} {r : RE} {B : Bs} {K : PySem.W.Frag}
def rExtendT (K : PySem.W.Frag) : V → List V → Hp → VK → Prop := fun x vs H Q => ∃ l b xs zs, x = .ref l ∧ vs = [.ref b] ∧ H l = some (.lst xs) ∧ SqT K H b zs ∧ xs.length + zs.length ≤ sizeLine ∧ Q .non (upd H l (.lst (xs ++ zs)))
theorem mt_extendT : MtM X "list.extend" (rExtendT X.K) := by
  intro pins s σ H x vs v us Q I rx rv h
  obtain ⟨l, b, xs, zs, rfl, rfl, hH, hB, hz, q⟩ := h
  cases rx
  obtain ⟨u, rfl, ru⟩ := rv.one
  cases ru
  obtain ⟨z, its, n, r, hl, e⟩ := I.lstM hH
  obtain ⟨its2, r2, ⟨⟨cls, dd, data, sl⟩, e2, hc, n2, hd⟩, hl2⟩ := I.tuple hB
  simp only at hc hd
  subst hc hd
  have hl2' : zs.length = its2.length := r2.length
  have hsz : its.toArray.size + its2.toArray.size ≤ sizeLine := by rw [List.size_toArray, List.size_toArray]; omega
  have hlong : ¬ (!its.toArray.isEmpty && Builtin.List.listTooLong (its.toArray.size + its2.toArray.size)) = true := by
    rw [notLongL hsz, Bool.and_false]
    exact Bool.false_ne_true
  refine call_meets F.slot_list_extend ⟨_, e, rfl⟩ F.entry_list_extend (F.args_list_extend_2 _ _)
    (mm_extend_tup l its.toArray n b dd sl its2.toArray n2 hlong (by rw [List.size_toArray]; omega) (by omega)) ⟨e, e2, ?_⟩
  refine ⟨.non, _, I.lset (its' := its ++ its2) hH e (by simp) (r.append r2) ?_, rfl, q⟩
  rw [List.length_append]
  omega
def rExtendA (K : PySem.W.Frag) : V → List V → Hp → VK → Prop := fun x vs H Q => rExtend x vs H Q ∨ rExtendT K x vs H Q
theorem mt_extendA : MtM X "list.extend" (rExtendA X.K) := by
  intro pins s σ H x vs v us Q I rx rv h
  rcases h with h | h
  · exact mt_extend pins s σ H x vs v us Q I rx rv h
  · exact mt_extendT pins s σ H x vs v us Q I rx rv h
/-- L.extend(list or tuple) -/
def rExtA (i : Nat) (r : RE) : RS := fun env M => match env[i]? with
  | some (.o (.list ds)) => r env fun d => match d with
    | .list es => ds.length + es.length ≤ sizeLine ∧ M.nx (env.set i (.o (.list (ds ++ es))))
    | .tuple es => ds.length + es.length ≤ sizeLine ∧ M.nx (env.set i (.o (.list (ds ++ es))))
    | _ => False
  | _ => False
theorem extA_of {i : Nat} {D : Ends} {σ : L2.St} {H : Hp} (h : tMS K B (rExtA i r) D σ H) : tDrop (tBM K "list" (rExtendA K) (tVar i) (tCons (tM K r) tNil)) D σ H := by
  obtain ⟨env, ⟨W, rel, ok, g0, nw⟩, M, hr, en⟩ := h
  unfold rExtA at hr
  split at hr
  · rename_i ds hi
    obtain ⟨v, ev, own⟩ := rel.op i _ hi
    obtain ⟨a, xs, rfl, fa, ia, ha, dms⟩ := own
    refine ⟨.ref a, ev, .inl ⟨rfl, xs, SqL.of ha⟩, env, W, rel, ok, _, hr, fun d p v W' H' o g dm => ?_⟩
    cases d with
    | list es =>
      cases dm with
      | lst h1 h2 =>
        refine .inl ⟨a, _, xs, _, rfl, rfl, g.h _ _ ha ia, o.fh _ _ h1, by rw [dms.length, h2.length]; exact p.1, en.nx _ p.2 _ _ ?_⟩
        exact SR.wr (rel.gr g) o (g0.trans g) nw hi ev (g.nf _ _ ha fa) (g.ns _ _ ha ia) (g.h _ _ ha ia) ((g.dms dms).append h2)
    | tuple es =>
      cases dm with
      | tup h1 h2 =>
        refine .inr ⟨a, _, xs, _, rfl, rfl, g.h _ _ ha ia, SqT.gr o.fh h1, by rw [dms.length, h2.length]; exact p.1, en.nx _ p.2 _ _ ?_⟩
        exact SR.wr (rel.gr g) o (g0.trans g) nw hi ev (g.nf _ _ ha fa) (g.ns _ _ ha ia) (g.h _ _ ha ia) ((g.dms dms).append h2)
    | _ => exact False.elim p
  · exact hr.elim
variable {e : Expr}
theorem ms_extA (i : Nat) {o : Expr} {apos cpos : Pos} {pos : Pos} (ho : PE X o (tVar i)) (he : PE X e (tM X.K r)) (hbase : attributeBase o "extend" X.env (eval o X.env) = eval o X.env := by rfl)
    (hfew : ((backTo cpos (starEach [e] X.env)).all (fun x => !x.1) && (backToKw cpos (keywordEach [] X.env)).all (fun x => x.1.isSome) && decide ([e].length + ([] : List Keyword).length + (if ([] : List Keyword).isEmpty then 0 else 1) < 30)) = true := by rfl)
    (hline : (apos.endLine == cpos.line) = true := by rfl) (hs : starEach [e] X.env = (false, eval e X.env) :: starEach [] X.env := by rfl)
    (hsw : swapsWith (.Call (.Attribute o "extend" apos) [e] [] cpos) none pos.line X.env = pure false := by rfl) : PS X (.Expr (.Call (.Attribute o "extend" apos) [e] [] cpos) pos) (tMS X.K B (rExtA i r)) :=
  imS (ps_expr (pe_bm PySem.F.plainAttrs_list PySem.F.slot_list_extend PySem.F.type_list_extend mt_extendA ho (pa_cons he pa_nil hs) hbase hfew hline hs rfl) hsw) fun _ _ _ h => extA_of h
end
end MM
set_option Elab.async false
set_option linter.all false
set_option maxRecDepth 100000
set_option maxHeartbeats 1000000
/-! M26: list(range(..)) -/
namespace MM
open PySem PySem.Spec L2
section
variable {X : Cx} {a b : Expr} {ra rb : RE} {p pos p2 pos2 : Pos}
theorem rgV_ints (i j : Int) : rgV i j = ((List.range (j - i).toNat).map fun k : Nat => i + (k : Int)).map V.int := by
  unfold rgV
  first | rfl | (rw [List.map_map]; rfl)
theorem rangeD_ints (i : Int) (n : Nat) : rangeD i n = ((List.range n).map fun k : Nat => i + (k : Int)).map PyData.int := by
  unfold rangeD
  rw [List.map_map]; rfl
def rLRg1 (ra : RE) : RE := fun env P => ra env fun d => match d with
  | .int n => (-(2 ^ 60) ≤ n ∧ n ≤ 1000000) ∧ P (.list (rangeD 0 n.toNat))
  | _ => False
def rLRg2 (ra rb : RE) : RE := fun env P => ra env fun d => rb env fun e => match d, e with
  | .int i, .int j => (-(2 ^ 60) ≤ i ∧ i ≤ 1000000 ∧ -(2 ^ 60) ≤ j ∧ j ≤ 1000000 ∧ j - i ≤ 1000000) ∧ P (.list (rangeD i (j - i).toNat))
  | _, _ => False
theorem rgOk_of {i j : Int} (h1 : -(2 ^ 60) ≤ i) (h2 : i ≤ 1000000) (h3 : -(2 ^ 60) ≤ j) (h4 : j ≤ 1000000) (h5 : j - i ≤ 1000000) : RgOk i j := by
  unfold RgOk
  have := sizeLine_eq
  omega
theorem mlrg1 (hc : X.calm = true) (hm : X.mg "list" = none) (hr : X.mg "range" = none) (ha : PE X a (tMw X.K ra)) (hg : Gl X "list" := by rfl) (hg2 : Gl X "range" := by rfl)
    (na : starEach [a] X.env = (false, eval a X.env) :: starEach [] X.env := by rfl) (nl : starEach [Expr.Call (.Name "range" p2) [a] [] pos2] X.env = (false, eval (.Call (.Name "range" p2) [a] [] pos2) X.env) :: starEach [] X.env := by rfl) :
    PE X (.Call (.Name "list" p) [.Call (.Name "range" p2) [a] [] pos2] [] pos) (tMf X.K (rLRg1 ra)) :=
  imE (pe_listRg hc hg hm (prg_1 hg2 hr ha na) nl) fun σ H Q ⟨env, W, rel, ok, P, hr, hq⟩ => ⟨env, W, rel, ok, _, hr, fun x px v W1 H1 o1 g1 wx => by
    cases x with
    | int n =>
      have := wx.int; subst this
      refine ⟨n, rfl, rgOk_of (by decide) (by decide) px.1.1 px.1.2 (by have := px.1.2; omega), fun q hq' => ?_⟩
      rw [rgV_ints]
      obtain ⟨o4, g4, fr⟩ := freshO (K := X.K) o1 hq' (DmAll.of_ints (ns := (List.range (n - 0).toNat).map fun k : Nat => (0 : Int) + (k : Int)))
      have e : rangeD 0 n.toNat = ((List.range (n - 0).toNat).map fun k : Nat => (0 : Int) + (k : Int)).map PyData.int := by rw [rangeD_ints, Int.sub_zero]
      rw [← e] at fr
      exact hq _ px.2 _ _ _ o4 (g1.trans g4) (Fresh.up g1 fr)
    | _ => exact False.elim px⟩
theorem mlrg2 (hc : X.calm = true) (hm : X.mg "list" = none) (hr : X.mg "range" = none) (ha : PE X a (tMw X.K ra)) (hb : PE X b (tMw X.K rb)) (hg : Gl X "list" := by rfl) (hg2 : Gl X "range" := by rfl)
    (na : starEach [a, b] X.env = (false, eval a X.env) :: starEach [b] X.env := by rfl) (nb : starEach [b] X.env = (false, eval b X.env) :: starEach [] X.env := by rfl) (hp : (backTo pos2 (starEach [b] X.env)).any (·.1) = false := by rfl)
    (nl : starEach [Expr.Call (.Name "range" p2) [a, b] [] pos2] X.env = (false, eval (.Call (.Name "range" p2) [a, b] [] pos2) X.env) :: starEach [] X.env := by rfl) :
    PE X (.Call (.Name "list" p) [.Call (.Name "range" p2) [a, b] [] pos2] [] pos) (tMf X.K (rLRg2 ra rb)) :=
  imE (pe_listRg hc hg hm (prg_2 hg2 hr ha hb na nb hp) nl) fun σ H Q ⟨env, W, rel, ok, P, hr, hq⟩ => ⟨env, W, rel, ok, _, hr, fun x px v W1 H1 o1 g1 wx => ⟨env, W1, rel.gr g1, o1, _, px, fun y py u W2 H2 o2 g2 wy => by
    cases x with
    | int i =>
      cases y with
      | int j =>
        have := wx.int; subst this
        have := wy.int; subst this
        refine ⟨i, j, rfl, rfl, rgOk_of py.1.1 py.1.2.1 py.1.2.2.1 py.1.2.2.2.1 py.1.2.2.2.2, fun q hq' => ?_⟩
        rw [rgV_ints]
        obtain ⟨o4, g4, fr⟩ := freshO (K := X.K) o2 hq' (DmAll.of_ints (ns := (List.range (j - i).toNat).map fun k : Nat => i + (k : Int)))
        rw [← rangeD_ints] at fr
        exact hq _ py.2 _ _ _ o4 ((g1.trans g2).trans g4) (Fresh.up (g1.trans g2) fr)
      | _ => exact False.elim py
    | _ => cases y <;> exact False.elim py⟩⟩
end
end MM
set_option Elab.async false
set_option linter.all false
set_option maxRecDepth 100000
set_option maxHeartbeats 1000000
/-! M27: the value {} : its making, repr of data that hold it, == with () and [] -/
namespace MM
open PySem PySem.Spec L2
section
variable {X : Cx} {pos : Pos}
theorem memp : PE X (.Dict [] [] pos) (tM X.K (rC (.dict []))) := imE pe_dnewK fun σ H Q h p hp => by
  obtain ⟨env, W, rel, ok, P, hr, hq⟩ := h
  obtain ⟨o', g'⟩ := lay (o := .dK []) ok hp
  exact hq _ hr _ _ _ o' g' (.emp upd_same)
end
mutual
/-- dicts in it are empty -/
def layE : PyData → Bool
  | .list xs | .tuple xs => layEs xs
  | .dict kvs => kvs.isEmpty
  | _ => true
def layEs : List PyData → Bool
  | [] => true
  | x :: xs => layE x && layEs xs
end
theorem layEs_cons {x : PyData} {xs : List PyData} (h : layEs (x :: xs) = true) : layE x = true ∧ layEs xs = true := by simpa [layEs] using h
mutual
theorem layE_of : ∀ d : PyData, d.canLay0 = true → layE d = true
  | .none, _ => rfl
  | .bool _, _ => rfl
  | .int _, _ => rfl
  | .str _, _ => rfl
  | .list xs, h => by
    show layEs xs = true
    exact layEs_of xs (by simpa [PyData.canLay0] using h)
  | .tuple xs, h => by
    show layEs xs = true
    exact layEs_of xs (by simpa [PyData.canLay0] using h)
  | .dict ds, h => by simp [PyData.canLay0] at h
theorem layEs_of : ∀ xs : List PyData, PyData.canLayAll0 xs = true → layEs xs = true
  | [], _ => rfl
  | x :: xs, h => by
    have c' : x.canLay0 = true ∧ PyData.canLayAll0 xs = true := by simpa [PyData.canLayAll0] using h
    simp [layEs, layE_of x c'.1, layEs_of xs c'.2]
end
section
variable {X : Cx} {pins : List (Addr × Obj)} {σ : L2.St} {H : Hp} {s : Shared} {W : Wd}
theorem emp_at (I : Inv X pins σ H s) {a : Addr} (e : H a = some (.dK [])) : (a == sysModules) = false ∧ ∃ o n, s.heap.get? a = some o ∧ o.cls = .type "dict" ∧ o.data = .dict #[] n := by
  obtain ⟨_, hd, vs, rel, o, es, ep, ho, hc, hdat, _, hp, _⟩ := dk_of I.hok e
  refine ⟨hd, o, ep, ho, hc.1, ?_⟩
  have e1 : vs = [] := List.eq_nil_of_length_eq_zero (by rw [← rel.length]; rfl)
  subst e1
  have e2 : es.toList = [] := List.eq_nil_of_length_eq_zero (by rw [hp.length]; rfl)
  have e3 : es = #[] := by
    apply Array.toList_inj.mp
    simpa using e2
  rw [hdat, e3]
mutual
theorem Dm.shows (I : Inv X pins σ H s) (ok : WOk W H) : ∀ (d : PyData) (v : V) (u : Value), layE d = true → Dm X.K W v d → RelV v u → ∃ as, Reads s.heap u d as ∧
    (d.showable = true → d.shown.length ≤ sizeLine → ∃ bs, ReadAtMost s.heap d.depth bs ∧ ReprK X.prog X.w bs s.heap d.depth u d.shown)
  | .none, _, _, _, h, r => by
    cases h
    cases r
    exact ⟨_, Reads.none, fun _ _ => ⟨[], (fun _ h => nomatch h), by simp only [PyData.shown]; exact .of_is ReprIs.none _ _ _⟩⟩
  | .bool b, _, _, _, h, r => by
    cases h
    cases r
    exact ⟨_, Reads.bool b, fun _ _ => ⟨[], (fun _ h => nomatch h), by simp only [PyData.shown]; exact .of_is (ReprIs.bool b) _ _ _⟩⟩
  | .int i, _, _, _, h, r => by
    cases h
    obtain ⟨t, rfl⟩ := r
    exact ⟨_, Reads.int i t, fun hs _ => ⟨[], (fun _ h => nomatch h), by simp only [PyData.shown]; exact .of_is (ReprIs.int t (by simpa [PyData.showable] using hs)) _ _ _⟩⟩
  | .str x, _, _, _, h, r => by
    cases h
    obtain ⟨t, rfl⟩ := r
    exact ⟨_, Reads.str x t, fun _ hz => ⟨[], (fun _ h => nomatch h), by simp only [PyData.shown]; exact .of_is (ReprIs.str x t (by simpa only [PyData.shown] using hz)) _ _ _⟩⟩
  | .list ds, _, _, c, h, r => by
    cases h with
    | lst hs ha =>
      cases r
      obtain ⟨its, rv, ⟨o, n, ho, hc, _, hd⟩, _⟩ := I.list (SqL.of (K := X.K) (ok.fh _ _ hs))
      obtain ⟨as, hr, hk⟩ := Dm.showsAll I ok ds _ its (by simpa [layE] using c) ha rv
      have rr := Reads.list ho hc hd (by simpa using hr)
      refine ⟨_, rr, fun hw hz => ?_⟩
      have hz' : (listText (PyData.shownAll ds)).length ≤ sizeLine := by simpa only [PyData.shown] using hz
      obtain ⟨bs, hb, hk⟩ := hk (by simpa [PyData.showable] using hw) fun t ht => Nat.le_trans (listText_mem_le ht) hz'
      have hna := not_mem_of_deeper rr (by simp only [PyData.depth]; omega) hb
      refine ⟨_ :: bs, ReadAtMost.cons rr (by simp only [PyData.depth]; omega) hb, ?_⟩
      simp only [PyData.depth, PyData.shown]
      cases its with
      | nil =>
        cases hr
        simp only [PyData.shownAll, listText_nil]
        exact ReprK.listEmpty ho hc hd
      | cons x l => exact ReprK.list ho hc hd hna (by simpa using hk.length_eq) (fun i y e => hk.item i y (by simpa using e))
  | .tuple ds, _, _, c, h, r => by
    cases h with
    | tup hs ha =>
      cases r
      obtain ⟨its, rv, ⟨o, ho, hc, n, hd⟩, _⟩ := I.tuple (SqT.gr ok.fh hs)
      obtain ⟨as, hr, hk⟩ := Dm.showsAll I ok ds _ its (by simpa [layE] using c) ha rv
      have rr := Reads.tuple ho hc hd (by simpa using hr)
      refine ⟨_, rr, fun hw hz => ?_⟩
      have hz' : (tupleText (PyData.shownAll ds)).length ≤ sizeLine := by simpa only [PyData.shown] using hz
      obtain ⟨bs, hb, hk⟩ := hk (by simpa [PyData.showable] using hw) fun t ht => Nat.le_trans (tupleText_mem_le ht) hz'
      have hna := not_mem_of_deeper rr (by simp only [PyData.depth]; omega) hb
      refine ⟨_ :: bs, ReadAtMost.cons rr (by simp only [PyData.depth]; omega) hb, ?_⟩
      simp only [PyData.depth, PyData.shown]
      exact ReprK.tuple ho hc hd hna hk
  | .dict ds, _, _, c, h, r => by
    have e : ds = [] := by simpa [layE] using c
    subst e
    cases h with
    | emp e =>
      cases r
      obtain ⟨hsys, o, n, ho, hc, hd⟩ := emp_at I (ok.fh _ _ e)
      have rr : Reads s.heap (.ref _) (.dict []) _ := Reads.dict (kvs := []) ho hc hd (by simpa using ReadsAll.nil) (by simpa using ReadsAll.nil)
      refine ⟨_, rr, fun hw hz => ⟨[_], ReadAtMost.cons (bs := []) (n := 0) rr (Nat.zero_le _) (fun _ h => nomatch h), ?_⟩⟩
      simp only [PyData.depth, PyData.shown, PyData.shownKv, PyData.depthKv]
      exact ReprK.dict (as := []) (d := 0) ho hc hd hsys (fun h => nomatch h) (by simpa using ReprEntriesK.nil)
theorem Dm.showsAll (I : Inv X pins σ H s) (ok : WOk W H) : ∀ (ds : List PyData) (vs : List V) (us : List Value), layEs ds = true → DmAll X.K W vs ds → Vals vs us → ∃ as, ReadsAll s.heap us ds as ∧
    (PyData.showableAll ds = true → (∀ t ∈ PyData.shownAll ds, t.length ≤ sizeLine) → ∃ bs, ReadAtMost s.heap (PyData.depthAll ds) bs ∧ ReprAllK X.prog X.w bs s.heap (PyData.depthAll ds) us (PyData.shownAll ds))
  | [], _, _, _, h, r => by
    cases h
    cases r
    exact ⟨_, ReadsAll.nil, fun _ _ => ⟨[], (fun _ h => nomatch h), by simp only [PyData.shownAll]; exact .nil⟩⟩
  | d :: ds, _, _, c, h, r => by
    obtain ⟨c1, c2⟩ := layEs_cons c
    cases h with
    | cons h1 h2 =>
      cases r with
      | cons r1 r2 =>
        obtain ⟨as, q1, k1⟩ := Dm.shows I ok d _ _ c1 h1 r1
        obtain ⟨bs, q2, k2⟩ := Dm.showsAll I ok ds _ _ c2 h2 r2
        refine ⟨_, ReadsAll.cons q1 q2, fun hw hz => ?_⟩
        have hs' : d.showable = true ∧ PyData.showableAll ds = true := by simpa [PyData.showableAll] using hw
        obtain ⟨b1, hb1, k1⟩ := k1 hs'.1 (hz _ (by simp only [PyData.shownAll]; exact List.mem_cons_self ..))
        obtain ⟨b2, hb2, k2⟩ := k2 hs'.2 (fun t ht => hz t (by simp only [PyData.shownAll]; exact List.mem_cons_of_mem _ ht))
        refine ⟨b1 ++ b2, (hb1.mono (by simp only [PyData.depthAll]; exact Nat.le_max_left _ _)).append (hb2.mono (by simp only [PyData.depthAll]; exact Nat.le_max_right _ _)), ?_⟩
        simp only [PyData.depthAll, PyData.shownAll]
        exact .cons ((k1.more fun b hb => List.mem_append_left _ hb).level_le (Nat.le_max_left _ _)) (k2.more_le (fun b hb => List.mem_append_right _ hb) (Nat.le_max_right _ _))
end
end
/-- what repr takes where {} may stand within -/
def ReprE (d : PyData) : Prop := layE d = true ∧ d.showable = true ∧ d.shown.length ≤ sizeLine ∧ d.depth ≤ 60
theorem ReprOk.e {d : PyData} (h : ReprOk d) : ReprE d := ⟨layE_of d h.1, h.2⟩
def kReprE : KC := fun xs P => match xs with
  | [d] => ReprE d ∧ P (.str d.shown)
  | _ => False
section
variable {X : Cx} {n : Nat} {W : Wd} {H : Hp}
/-- weak data as frozen ones, the world's frozen part larger -/
theorem Weak.frz {K : PySem.W.Frag} {v : V} {d : PyData} (ok : WOk W H) (h : Weak K W H v d) : ∃ W', WOk W' H ∧ Dm K W' v d := by
  rcases h with h | h
  · exact ⟨W, ok, h⟩
  · cases d with
    | list ds =>
      obtain ⟨a, xs, _, _, ok', dm⟩ := h.freeze ok
      exact ⟨_, ok', dm⟩
    | _ => exact h.elim
theorem cm_reprE (m : MX X n) : CallM X (.builtin "repr") kReprE := by
  intro pins s σ H xs us Q I r ⟨W, ds, P, ok, wa, hk, hq⟩
  unfold kReprE at hk
  split at hk
  · rename_i d
    obtain ⟨v, rfl, wk⟩ := wa.one
    obtain ⟨⟨c1, c2, c3, c4⟩, hp⟩ := hk
    obtain ⟨u, rfl, ru⟩ := vals1 r
    have fin : ∀ (s' : Shared) (tk : Tok), Inv X pins σ H s' → EP X pins σ Q (.str d.shown tk) s' := fun s' tk I' => ⟨.str d.shown, H, I', ⟨tk, rfl⟩, hq _ hp _ W H ok (Gr.refl _ _) (.str _)⟩
    obtain ⟨W', ok', w⟩ := wk.frz ok
    obtain ⟨as, rd, kk⟩ := Dm.shows I ok' d v u c1 w ru
    have gu := m.gu
    have := m.room.un
    cases w with
    | non =>
      cases ru
      exact PySem.P.repr_of_none (by have := fin { s with toks := s.toks + 1 } s.toks (I.tok _); rwa [PyData.shown_none] at this)
    | bl b =>
      cases ru
      exact PySem.P.repr_of_bool (by have := fin { s with toks := s.toks + 1 } s.toks (I.tok _); rwa [PyData.shown_bool] at this)
    | int i =>
      obtain ⟨t, rfl⟩ := ru
      exact PySem.P.repr_of_int (by simpa [PyData.showable] using c2) (by have := fin { s with toks := s.toks + 1 } s.toks (I.tok _); rwa [PyData.shown_int] at this)
    | str z =>
      obtain ⟨t, rfl⟩ := ru
      rw [PyData.shown_str] at c3
      exact PySem.P.repr_of_str (by have := fin { s with toks := s.toks + 1 } s.toks (I.tok _); rwa [PyData.shown_str] at this) c3
    | src e => simp [layE] at c1
    | scr e => simp [layE] at c1
    | emp e =>
      cases ru
      obtain ⟨hsys, o, n, ho, hc, hd⟩ := emp_at I (ok'.fh _ _ e)
      refine call_repr_slot (by omega) ⟨o, ho, hc⟩ F.slot_dict_repr (call_dict_reprK (as := []) (d := 0) (ps := []) ho hc hd hsys (fun h => nomatch h) (by simpa using ReprEntriesK.nil) gu (fun b _ => Clear.nil b) (by show X.A.units + 1 + (0 + 1) < cLine; omega) (fun _ _ e => e) (fun h' u tk hk => ⟨_, _, rfl, ?_⟩) ?_)
      · have := fin { s with heap := h', toks := tk } u (I.kept hk)
        simp only [PyData.shown, PyData.shownKv] at this
        exact this
      · simpa only [PyData.shown, PyData.shownKv] using c3
    | @lst a xs ds hs ha =>
      cases ru
      obtain ⟨its, rv, ⟨o, n, ho, hc, _, hd⟩, _⟩ := I.list (SqL.of (K := X.K) (ok'.fh _ _ hs))
      obtain ⟨as, hr, hk⟩ := Dm.showsAll I ok' ds _ its (by simpa [layE] using c1) ha rv
      have rr := Reads.list ho hc hd (by simpa using hr)
      have hz' : (listText (PyData.shownAll ds)).length ≤ sizeLine := by simpa only [PyData.shown] using c3
      obtain ⟨bs, hb, hk⟩ := hk (by simpa [PyData.showable] using c2) fun t ht => Nat.le_trans (listText_mem_le ht) hz'
      have hna := not_mem_of_deeper rr (by simp only [PyData.depth]; omega) hb
      simp only [PyData.depth] at c4
      have fin2 : ∀ h' u tk, (∀ b o, s.heap.get? b = some o → h'.get? b = some o) → EP X pins σ Q (.str (listText (PyData.shownAll ds)) u) { s with heap := h', toks := tk } := fun h' u tk hk => by
        have := fin { s with heap := h', toks := tk } u (I.kept hk)
        simp only [PyData.shown] at this
        exact this
      refine call_repr_slot (by omega) ⟨o, ho, hc⟩ F.slot_list_repr.toG ?_
      cases its with
      | nil =>
        cases hr
        refine call_list_repr_empty ⟨o, ho, hc⟩ ho hd ⟨_, _, rfl, ?_⟩
        have := fin2 s.heap s.toks (s.toks + 1) fun _ _ e => e
        simp only [PyData.shownAll, listText_nil] at this
        exact this
      | cons x l => exact call_list_reprK ho hc hd hna (by simpa using hk.length_eq) (fun i y e => hk.item i y (by simpa using e)) gu (fun b _ => Clear.nil b) (by show X.A.units + 1 + _ < cLine; omega) (fun _ _ e => e) (fun h' u tk hk => ⟨_, _, rfl, fin2 h' u tk hk⟩) hz'
    | @tup a xs ds hs ha =>
      cases ru
      obtain ⟨its, rv, ⟨o, ho, hc, n, hd⟩, _⟩ := I.tuple (SqT.gr ok'.fh hs)
      obtain ⟨as, hr, hk⟩ := Dm.showsAll I ok' ds _ its (by simpa [layE] using c1) ha rv
      have rr := Reads.tuple ho hc hd (by simpa using hr)
      have hz' : (tupleText (PyData.shownAll ds)).length ≤ sizeLine := by simpa only [PyData.shown] using c3
      obtain ⟨bs, hb, hk⟩ := hk (by simpa [PyData.showable] using c2) fun t ht => Nat.le_trans (tupleText_mem_le ht) hz'
      have hna := not_mem_of_deeper rr (by simp only [PyData.depth]; omega) hb
      simp only [PyData.depth] at c4
      have fin2 : ∀ h' u tk, (∀ b o, s.heap.get? b = some o → h'.get? b = some o) → EP X pins σ Q (.str (tupleText (PyData.shownAll ds)) u) { s with heap := h', toks := tk } := fun h' u tk hk => by
        have := fin { s with heap := h', toks := tk } u (I.kept hk)
        simp only [PyData.shown] at this
        exact this
      refine call_repr_slot (by omega) ⟨o, ho, hc⟩ F.slot_tuple_repr ?_
      exact call_tuple_reprK ho hc hd hna hk gu (fun b _ => Clear.nil b) (by show X.A.units + 1 + _ < cLine; omega) (fun _ _ e => e) (fun h' u tk hk => ⟨_, _, rfl, fin2 h' u tk hk⟩) hz'
  · exact hk.elim
end
/-! ### == () and == [] of any data -/
def kEqZ : K2 := fun x y P => match x, y with
  | .tuple xs, .tuple [] => P (.bool xs.isEmpty)
  | .list xs, .list [] => P (.bool xs.isEmpty)
  | x, y => kEq x y P
def kNeZ : K2 := fun x y P => match x, y with
  | .tuple xs, .tuple [] => P (.bool (!xs.isEmpty))
  | .list xs, .list [] => P (.bool (!xs.isEmpty))
  | x, y => kNe x y P
section
variable {X : Cx} {n : Nat} {W : Wd} {H : Hp}
theorem om_eqZ (m : MX X n) : OpM X (compareOp .Eq) kEqZ := by
  intro pins s σ H x y v u Q I rx ry ⟨W, d, e, P, ok, wx, wy, q, hq⟩
  have hu := m.hu
  unfold kEqZ at q
  split at q
  · rename_i xs
    obtain ⟨a, vs, rfl, h1, d1, _⟩ := wx.tup ok
    obtain ⟨b, ws, rfl, h2, d2, _⟩ := wy.tup ok
    cases rx
    cases ry
    obtain ⟨i1, r1, p1, _⟩ := I.tuple h1
    obtain ⟨i2, r2, p2, _⟩ := I.tuple h2
    have l1 := r1.length
    have l2 := r2.length
    have k1 := d1.length
    have k2 := d2.length
    have fin : EP X pins σ Q (.bool xs.isEmpty) s := ⟨.bl _, H, I, rfl, hq _ q _ W H ok (Gr.refl W H) (.bl _)⟩
    have rc := SeqAt.RcAt.tuples (e := fun _ => true) p1 p2 (A := X.A) (by omega) fun j j1 j2 => by
      rw [List.size_toArray] at j2
      simp only [List.length_nil] at k2
      omega
    have eb : ((List.range (min i1.toArray.size i2.toArray.size)).all (fun _ => true) && i1.toArray.size == i2.toArray.size) = xs.isEmpty := by
      rw [List.size_toArray, List.size_toArray, ← l1, ← l2, k1, k2]
      cases xs <;> simp
    rw [eb] at rc
    exact rc X.prog X.w _ _ fin
  · rename_i xs
    obtain ⟨a, vs, rfl, h1, d1⟩ := wx.lst ok
    obtain ⟨b, ws, rfl, h2, d2⟩ := wy.lst ok
    cases rx
    cases ry
    obtain ⟨i1, r1, ⟨o1, n1, g1, c1, _, t1⟩, _⟩ := I.list (SqL.of (K := X.K) h1)
    obtain ⟨i2, r2, ⟨o2, n2, g2, c2, _, t2⟩, _⟩ := I.list (SqL.of (K := X.K) h2)
    have l1 := r1.length
    have l2 := r2.length
    have k1 := d1.length
    have k2 := d2.length
    have fin : EP X pins σ Q (.bool xs.isEmpty) s := ⟨.bl _, H, I, rfl, hq _ q _ W H ok (Gr.refl W H) (.bl _)⟩
    have p1 : s.heap.IsList a i1.toArray := ⟨o1, g1, c1, n1, t1⟩
    have p2 : s.heap.IsList b i2.toArray := ⟨o2, g2, c2, n2, t2⟩
    simp only [List.length_nil] at k2
    cases xs with
    | nil =>
      have rc := SeqAt.RcAt.lists (e := fun _ => true) p1 p2 (A := X.A) (by simp only [List.size_toArray]; simp only [List.length_nil] at k1; omega) (by omega) fun j j1 j2 => by
        rw [List.size_toArray] at j2
        omega
      have eb : ((List.range i1.toArray.size).all fun _ => true) = true := by simp
      rw [eb] at rc
      exact rc X.prog X.w _ _ fin
    | cons z zs =>
      have rc := SeqAt.RcAt.lists_lengths p1 p2 (A := X.A) (by simp only [List.size_toArray, bne_iff_ne, ne_eq]; simp only [List.length_cons] at k1; omega) (by omega)
      exact rc X.prog X.w _ _ fin
  · exact om_eq m pins s σ H x y v u Q I rx ry ⟨W, _, _, P, ok, wx, wy, q, hq⟩
theorem om_neZ (m : MX X n) : OpM X (compareOp .NotEq) kNeZ := by
  intro pins s σ H x y v u Q I rx ry ⟨W, d, e, P, ok, wx, wy, q, hq⟩
  have hu := m.hu
  unfold kNeZ at q
  split at q
  · rename_i xs
    obtain ⟨a, vs, rfl, h1, d1, _⟩ := wx.tup ok
    obtain ⟨b, ws, rfl, h2, d2, _⟩ := wy.tup ok
    cases rx
    cases ry
    obtain ⟨i1, r1, p1, _⟩ := I.tuple h1
    obtain ⟨i2, r2, p2, _⟩ := I.tuple h2
    have l1 := r1.length
    have l2 := r2.length
    have k1 := d1.length
    have k2 := d2.length
    have fin : EP X pins σ Q (.bool (!xs.isEmpty)) s := ⟨.bl _, H, I, rfl, hq _ q _ W H ok (Gr.refl W H) (.bl _)⟩
    have rc := SeqAt.RcNeAt.tuples (e := fun _ => true) p1 p2 (A := X.A) (by omega) fun j j1 j2 => by
      rw [List.size_toArray] at j2
      simp only [List.length_nil] at k2
      omega
    have eb : ((List.range (min i1.toArray.size i2.toArray.size)).all (fun _ => true) && i1.toArray.size == i2.toArray.size) = xs.isEmpty := by
      rw [List.size_toArray, List.size_toArray, ← l1, ← l2, k1, k2]
      cases xs <;> simp
    rw [eb] at rc
    exact rc X.prog X.w _ _ fin
  · rename_i xs
    obtain ⟨a, vs, rfl, h1, d1⟩ := wx.lst ok
    obtain ⟨b, ws, rfl, h2, d2⟩ := wy.lst ok
    cases rx
    cases ry
    obtain ⟨i1, r1, ⟨o1, n1, g1, c1, _, t1⟩, _⟩ := I.list (SqL.of (K := X.K) h1)
    obtain ⟨i2, r2, ⟨o2, n2, g2, c2, _, t2⟩, _⟩ := I.list (SqL.of (K := X.K) h2)
    have l1 := r1.length
    have l2 := r2.length
    have k1 := d1.length
    have k2 := d2.length
    have fin : EP X pins σ Q (.bool (!xs.isEmpty)) s := ⟨.bl _, H, I, rfl, hq _ q _ W H ok (Gr.refl W H) (.bl _)⟩
    have p1 : s.heap.IsList a i1.toArray := ⟨o1, g1, c1, n1, t1⟩
    have p2 : s.heap.IsList b i2.toArray := ⟨o2, g2, c2, n2, t2⟩
    simp only [List.length_nil] at k2
    cases xs with
    | nil =>
      have rc := SeqAt.RcNeAt.lists (e := fun _ => true) p1 p2 (A := X.A) (by simp only [List.size_toArray]; simp only [List.length_nil] at k1; omega) (by omega) fun j j1 j2 => by
        rw [List.size_toArray] at j2
        omega
      have eb : ((List.range i1.toArray.size).all fun _ => true) = true := by simp
      rw [eb] at rc
      exact rc X.prog X.w _ _ fin
    | cons z zs =>
      have rc := SeqAt.RcNeAt.lists_lengths p1 p2 (A := X.A) (by simp only [List.size_toArray, bne_iff_ne, ne_eq]; simp only [List.length_cons] at k1; omega) (by omega)
      exact rc X.prog X.w _ _ fin
  · exact om_ne m pins s σ H x y v u Q I rx ry ⟨W, _, _, P, ok, wx, wy, q, hq⟩
end
end MM
set_option Elab.async false
set_option linter.all false
set_option maxRecDepth 100000
set_option maxHeartbeats 1000000
/-! M28: x in a tuple of deep values, L.index(x) -/
namespace MM
open PySem PySem.Spec L2
def kInX (neg : Bool) : K2 := fun x y P => match y with
  | .tuple ds => SeqAt.shaped x = true ∧ SeqAt.shaped (.tuple ds) = true ∧ P (.bool (if neg then !ds.any (fun z => PyData.eqv z x) else ds.any fun z => PyData.eqv z x))
  | y => kInD neg x y P
theorem depth_tup {ds : List PyData} : (PyData.tuple ds).depth = PyData.depthAll ds + 1 := by simp only [PyData.depth]
section
variable {X : Cx} {n : Nat}
theorem om_inX (m : MX X n) : OpM X (compareOp .In) (kInX false) := by
  intro pins s σ H x y v u Q I rx ry ⟨W, d, e, P, ok, wx, wy, q, hq⟩
  cases e with
  | tuple ds =>
    obtain ⟨h1, h2, p⟩ := q
    have c1 := SeqAt.canLay_of_shaped h1
    have c2 : PyData.canLayAll0 ds = true := by simpa [PyData.canLay0] using SeqAt.canLay_of_shaped h2
    obtain ⟨as, r1⟩ := Dp.reads I d x v (wx.dp ok c1) rx
    obtain ⟨bs, r2⟩ := Dp.reads I (.tuple ds) y u (wy.dp ok (SeqAt.canLay_of_shaped h2)) ry
    have hd := SeqAt.depth_of_shaped h1
    have hu := m.hu5
    exact SeqAt.in_tuple_reads r2 r1 c2 c1 (by omega) ⟨.bl _, H, I, rfl, hq _ p _ W H ok (Gr.refl W H) (.bl _)⟩
  | _ => exact om_inD m pins s σ H x y v u Q I rx ry ⟨W, _, _, P, ok, wx, wy, q, hq⟩
theorem om_notinX (m : MX X n) : OpM X (compareOp .NotIn) (kInX true) := by
  intro pins s σ H x y v u Q I rx ry ⟨W, d, e, P, ok, wx, wy, q, hq⟩
  cases e with
  | tuple ds =>
    obtain ⟨h1, h2, p⟩ := q
    have c1 := SeqAt.canLay_of_shaped h1
    have c2 : PyData.canLayAll0 ds = true := by simpa [PyData.canLay0] using SeqAt.canLay_of_shaped h2
    obtain ⟨as, r1⟩ := Dp.reads I d x v (wx.dp ok c1) rx
    obtain ⟨bs, r2⟩ := Dp.reads I (.tuple ds) y u (wy.dp ok (SeqAt.canLay_of_shaped h2)) ry
    have hd := SeqAt.depth_of_shaped h1
    have hu := m.hu5
    exact SeqAt.notIn_tuple_reads r2 r1 c2 c1 (by omega) ⟨.bl _, H, I, rfl, hq _ p _ W H ok (Gr.refl W H) (.bl _)⟩
  | _ => exact om_notinD m pins s σ H x y v u Q I rx ry ⟨W, _, _, P, ok, wx, wy, q, hq⟩
end
/-- L.index(x), x there -/
def rIndexM (ro re : RE) : RE := fun env P => ro env fun x => match x with
  | .list ds => re env fun y => SeqAt.shaped (.list ds) = true ∧ SeqAt.shaped y = true ∧ ∃ (j : Nat) (z : PyData), ds[j]? = some z ∧ PyData.eqv z y = true ∧ (∀ (m : Nat) (z' : PyData), m < j → ds[m]? = some z' → PyData.eqv z' y = false) ∧ P (.int (j : Int))
  | _ => False
section
variable {X : Cx} {n : Nat} {o e : Expr} {ro re : RE} {apos cpos : Pos}
theorem mindex (m : MX X n) (ho : PE X o (tMw X.K ro)) (he : PE X e (tMw X.K re)) (hbase : attributeBase o "index" X.env (eval o X.env) = eval o X.env := by rfl)
    (hfew : ((backTo cpos (starEach [e] X.env)).all (fun x => !x.1) && (backToKw cpos (keywordEach [] X.env)).all (fun x => x.1.isSome) && decide ([e].length + ([] : List Keyword).length + (if ([] : List Keyword).isEmpty then 0 else 1) < 30)) = true := by rfl)
    (hline : (apos.endLine == cpos.line) = true := by rfl) (hs : starEach [e] X.env = (false, eval e X.env) :: starEach [] X.env := by rfl) :
    PE X (.Call (.Attribute o "index" apos) [e] [] cpos) (tM X.K (rIndexM ro re)) :=
  imE (pe_bm PySem.F.plainAttrs_list PySem.F.slot_list_index PySem.F.type_list_index (mt_indexD m.hu5) ho (pa_cons he pa_nil hs) hbase hfew hline hs rfl) fun σ H Q h => by
    obtain ⟨env, W, rel, ok, P, hr, hq⟩ := h
    refine ⟨env, W, rel, ok, _, hr, fun x hx v W1 H1 o1 g1 wx => ?_⟩
    cases x with
    | list ds =>
      obtain ⟨a, xs, rfl, e1, d1⟩ := wx.lst o1
      refine ⟨.inl ⟨rfl, xs, SqL.of e1⟩, env, W1, rel.gr g1, o1, _, hx, fun y hy w W2 H2 o2 g2 wy => ?_⟩
      obtain ⟨s1, s2, j, z, hz, hzj, hno, hp⟩ := hy
      exact ⟨a, w, y, ds, j, z, rfl, rfl, (wx.gr g2).dp o2 (SeqAt.canLay_of_shaped s1), wy.dp o2 (SeqAt.canLay_of_shaped s2), s1, s2, hz, hzj, hno, hq _ hp _ W2 H2 o2 (g1.trans g2) (.int _)⟩
    | _ => exact hx.elim
end
end MM
set_option Elab.async false
set_option linter.all false
set_option maxRecDepth 100000
set_option maxHeartbeats 1000000
/-! X8: plain words about readings -/
namespace MM
open PySem PySem.Spec L2

/-! ### loops -/
/-- for x in xs, by the part taken, where x lies in xs -/
theorem for_inv {α : Type} (inj : α → PyData) (I : List α → En → Prop) (xs : List α) {g : RG} {b : RS} {M : ME} {env : En} (h0 : I [] env)
    (step : ∀ pre x post e, xs = pre ++ x :: post → I pre e → ∀ M' : ME, (∀ e', I (pre ++ [x]) e' → M'.nx e') → (∀ e', I (pre ++ [x]) e' → M'.ct e') → M'.rt = M.rt → (∀ e', M.nx e' → M'.bk e') → g e (inj x) fun e' => b e' M')
    (hend : ∀ e, I xs e → M.nx e) : forR g b (xs.map inj) env M := by
  have key : ∀ (post pre : List α) (env : En), xs = pre ++ post → I pre env → forR g b (post.map inj) env M := by
    intro post
    induction post with
    | nil =>
      intro pre env e h
      rw [List.append_nil] at e
      exact hend env (e ▸ h)
    | cons x post ih =>
      intro pre env e h
      rw [List.map_cons]
      have e2 : xs = (pre ++ [x]) ++ post := by rw [e, List.append_assoc]; rfl
      exact step pre x post env e h _ (fun e' h' => ih _ e' e2 h') (fun e' h' => ih _ e' e2 h') rfl (fun e' h' => h')
  exact key xs [] env rfl h0
/-- while: I holds, μ falls -/
theorem while_inv (I : En → Prop) (μ : En → Nat) {c : RT} {b : RS} {M : ME} {env : En} (h0 : I env)
    (step : ∀ e, I e → ∀ M' : ME, (∀ e', I e' → μ e' < μ e → M'.nx e') → (∀ e', I e' → μ e' < μ e → M'.ct e') → M'.rt = M.rt → (∀ e', M.nx e' → M'.bk e') → c e fun t => if t = true then b e M' else M.nx e) : rWhile c b env M := by
  refine ⟨μ env + 1, ?_⟩
  have key : ∀ n e, μ e < n → I e → whR c b n e M := by
    intro n
    induction n with
    | zero => intro e h; omega
    | succ n ih =>
      intro e h hI
      exact step e hI _ (fun e' h' hl => ih e' (by omega) h') (fun e' h' hl => ih e' (by omega) h') rfl (fun e' h' => h')
  exact key _ env (Nat.lt_succ_self _) h0
/-- [elt for x in xs if t]: F tells of each x what is made of it -/
theorem lc_fm {α : Type} (inj : α → PyData) (F : α → Option PyData) {g : RG} {t : RT} {r : RE} {env : En} {P : List PyData → Prop} : ∀ (xs : List α) (acc : List PyData), acc.length + xs.length ≤ sizeLine →
    (∀ x ∈ xs, ∀ Q : Option PyData → Prop, Q (F x) → g env (inj x) fun e => t e fun c => if c = true then r e fun y => Q (some y) else Q none) → P (acc ++ xs.filterMap F) → lcR g t r env (xs.map inj) acc P
  | [], acc, _, _, hP => by simpa [lcR] using hP
  | x :: xs, acc, hl, h, hP => by
    rw [List.map_cons]
    have hl' : acc.length + (xs.length + 1) ≤ sizeLine := hl
    refine h x List.mem_cons_self (fun o => match o with | some y => acc.length < sizeLine ∧ lcR g t r env (xs.map inj) (acc ++ [y]) P | none => lcR g t r env (xs.map inj) acc P) ?_
    cases e : F x with
    | none => exact lc_fm inj F xs acc (by omega) (fun y hy => h y (List.mem_cons_of_mem _ hy)) (by rwa [List.filterMap_cons, e] at hP)
    | some y => exact ⟨by omega, lc_fm inj F xs (acc ++ [y]) (by simp; omega) (fun y hy => h y (List.mem_cons_of_mem _ hy)) (by rw [List.filterMap_cons, e] at hP; simpa using hP)⟩
/-- .. every x gives one -/
theorem lc_map {α : Type} (inj : α → PyData) (f : α → PyData) {g : RG} {t : RT} {r : RE} {env : En} {P : List PyData → Prop} (xs : List α) (hl : xs.length ≤ sizeLine)
    (h : ∀ x ∈ xs, ∀ Q : Option PyData → Prop, Q (some (f x)) → g env (inj x) fun e => t e fun c => if c = true then r e fun y => Q (some y) else Q none) (hP : P (xs.map f)) : lcR g t r env (xs.map inj) [] P :=
  lc_fm inj (fun x => some (f x)) xs [] (by simpa using hl) h (by simpa [List.filterMap_eq_map] using hP)
/-- .. some are taken -/
theorem lc_filt {α : Type} (inj : α → PyData) (p : α → Bool) (f : α → PyData) {g : RG} {t : RT} {r : RE} {env : En} {P : List PyData → Prop} (xs : List α) (hl : xs.length ≤ sizeLine)
    (h : ∀ x ∈ xs, ∀ Q : Option PyData → Prop, Q (if p x = true then some (f x) else none) → g env (inj x) fun e => t e fun c => if c = true then r e fun y => Q (some y) else Q none) (hP : P ((xs.filter p).map f)) : lcR g t r env (xs.map inj) [] P := by
  refine lc_fm inj (fun x => if p x = true then some (f x) else none) xs [] (by simpa using hl) h ?_
  have e : ∀ ys : List α, ys.filterMap (fun x => if p x = true then some (f x) else none) = (ys.filter p).map f := fun ys => by
    induction ys with
    | nil => rfl
    | cons y ys ih =>
      by_cases q : p y = true
      · rw [List.filterMap_cons, if_pos q, List.filter_cons, if_pos q, List.map_cons, ih]
      · rw [List.filterMap_cons, if_neg q, List.filter_cons, if_neg q, ih]
  rw [List.nil_append, e]
  exact hP

/-! ### what is shown, what is compared -/
mutual
/-- data of short ints (below 10^80), of signs that are signs, without dicts -/
def okB : PyData → Bool
  | .none | .bool _ => true
  | .int i => decide (i.natAbs < 10 ^ 80)
  | .str x => PyData.strOk x
  | .list xs | .tuple xs => okBs xs
  | .dict _ => false
def okBs : List PyData → Bool
  | [] => true
  | x :: xs => okB x && okBs xs
end
theorem int_short {i : Int} (h : i.natAbs < 10 ^ 80) : (PyData.shown (.int i)).length ≤ 82 := by
  rw [PyData.shown_int]
  have e : ((toString i : String) : Str).length = (toString i).length := ofString_length _
  rw [e, Int.toString_eq_repr, Int.repr_eq_if]
  have h1 : (Nat.repr i.natAbs).length ≤ 80 := (Nat.length_repr_le_iff (by decide)).mpr h
  split
  · rename_i h0
    have : i.toNat = i.natAbs := by omega
    rw [this]; omega
  · rename_i h0
    have : (-i).toNat = i.natAbs := by omega
    rw [this, String.length_append]
    have e2 : "-".length = 1 := rfl
    omega
theorem int_log {i : Int} (h : i.natAbs < 10 ^ 80) : i.natAbs.log2 < 1920 := by
  by_cases h0 : i.natAbs = 0
  · rw [h0]; decide
  · rw [Nat.log2_lt h0]
    exact Nat.lt_of_lt_of_le h (Nat.le_trans (by decide : 10 ^ 80 ≤ 2 ^ 300) (Nat.pow_le_pow_right (by decide) (by decide)))
mutual
theorem okB_lay : ∀ d : PyData, okB d = true → d.canLay0 = true ∧ d.showable = true ∧ d.leavesShort 82 = true
  | .none, _ => by simp [PyData.canLay0, PyData.showable, PyData.leavesShort]
  | .bool _, _ => by simp [PyData.canLay0, PyData.showable, PyData.leavesShort]
  | .int i, h => by
    have h : i.natAbs < 10 ^ 80 := by simpa [okB] using h
    simp only [PyData.canLay0, PyData.showable, PyData.leavesShort, decide_eq_true_eq]
    exact ⟨trivial, int_log h, int_short h⟩
  | .str x, h => by
    have h' : PyData.strOk x = true := by simpa [okB] using h
    simp only [PyData.canLay0, PyData.showable, PyData.leavesShort]
    refine ⟨h', trivial, ?_⟩
    have h2 : ∀ i (hi : i < x.cps.size), x.cps[i] < 0x110000 := by simpa [PyData.strOk] using h'
    rw [List.all_eq_true]
    intro c hc
    obtain ⟨i, hi, rfl⟩ := List.getElem_of_mem hc
    have := h2 i (by simpa using hi)
    simp only [Array.getElem_toList, decide_eq_true_eq]
    exact Nat.lt_trans this (by decide)
  | .list xs, h => by
    have := okBs_lay xs (by simpa [okB] using h)
    simpa [PyData.canLay0, PyData.showable, PyData.leavesShort] using this
  | .tuple xs, h => by
    have := okBs_lay xs (by simpa [okB] using h)
    simpa [PyData.canLay0, PyData.showable, PyData.leavesShort] using this
  | .dict _, h => by simp [okB] at h
theorem okBs_lay : ∀ ds : List PyData, okBs ds = true → PyData.canLayAll0 ds = true ∧ PyData.showableAll ds = true ∧ PyData.leavesShortAll 82 ds = true
  | [], _ => by simp [PyData.canLayAll0, PyData.showableAll, PyData.leavesShortAll]
  | d :: ds, h => by
    have h : okB d = true ∧ okBs ds = true := by simpa [okBs] using h
    have h1 := okB_lay d h.1
    have h2 := okBs_lay ds h.2
    simp [PyData.canLayAll0, PyData.showableAll, PyData.leavesShortAll, h1, h2]
end
/-- a datum that may be shown and compared: at most n parts, k deep -/
structure RB (d : PyData) (n k : Nat) : Prop where
  ok : okB d = true
  bulk : d.bulk ≤ n
  depth : d.depth ≤ k
structure RBs (ds : List PyData) (n k : Nat) : Prop where
  ok : okBs ds = true
  bulk : PyData.bulkAll ds ≤ n
  depth : PyData.depthAll ds ≤ k
theorem RB.repr {d : PyData} {n k : Nat} (h : RB d n k) (hn : n ≤ 190000) (hk : k ≤ 60) : ReprOk d := by
  obtain ⟨h1, h2, h3⟩ := okB_lay d h.ok
  refine ⟨h1, h2, ?_, Nat.le_trans h.depth hk⟩
  have a := PyData.shown_le_bulk 82 (by decide) d h3
  have b := h.bulk
  rw [sizeLine_eq]
  omega
theorem RB.shaped {d : PyData} {n k : Nat} (h : RB d n k) (hk : k ≤ 60) : SeqAt.shaped d = true := by
  obtain ⟨h1, _⟩ := okB_lay d h.ok
  have := h.depth
  unfold SeqAt.shaped
  rw [h1, Bool.true_and, decide_eq_true_eq]
  omega
theorem RB.refl {d : PyData} {n k : Nat} (h : RB d n k) : PyData.eqv d d = true := SeqAt.eqv_refl d (okB_lay d h.ok).1
theorem RB.int8 {i : Int} (h : i.natAbs < 10 ^ 80) : RB (.int i) 0 0 := ⟨by simpa [okB] using h, by simp [PyData.bulk], by simp [PyData.depth]⟩
theorem RB.int {i : Int} (h : i.natAbs < 10 ^ 60) : RB (.int i) 0 0 := RB.int8 (Nat.lt_trans h (by decide))
theorem RB.bool {b : Bool} : RB (.bool b) 0 0 := ⟨by simp [okB], by simp [PyData.bulk], by simp [PyData.depth]⟩
theorem RB.non : RB .none 0 0 := ⟨by simp [okB], by simp [PyData.bulk], by simp [PyData.depth]⟩
theorem RB.str {x : Str} {n : Nat} (h : PyData.strOk x = true) (hl : x.cps.size ≤ n) : RB (.str x) n 0 := ⟨by simpa [okB] using h, by simpa [PyData.bulk] using hl, by simp [PyData.depth]⟩
theorem RBs.nil : RBs [] 0 0 := ⟨by simp [okBs], by simp [PyData.bulkAll], by simp [PyData.depthAll]⟩
theorem RBs.cons {d : PyData} {ds : List PyData} {n m k j : Nat} (h : RB d n k) (hs : RBs ds m j) : RBs (d :: ds) (n + 1 + m) (max k j) :=
  ⟨by simp [okBs, h.ok, hs.ok], by have := h.bulk; have := hs.bulk; simp only [PyData.bulkAll]; omega, by have := h.depth; have := hs.depth; simp only [PyData.depthAll]; omega⟩
theorem RBs.list {ds : List PyData} {n k : Nat} (h : RBs ds n k) : RB (.list ds) n (k + 1) := ⟨by simpa [okB] using h.ok, by simpa [PyData.bulk] using h.bulk, by have := h.depth; simp only [PyData.depth]; omega⟩
theorem RBs.tuple {ds : List PyData} {n k : Nat} (h : RBs ds n k) : RB (.tuple ds) n (k + 1) := ⟨by simpa [okB] using h.ok, by simpa [PyData.bulk] using h.bulk, by have := h.depth; simp only [PyData.depth]; omega⟩
theorem RBs.all {n k : Nat} : ∀ {ds : List PyData}, (∀ d ∈ ds, RB d n k) → RBs ds ((n + 1) * ds.length) k
  | [], _ => ⟨by simp [okBs], by simp [PyData.bulkAll], by simp [PyData.depthAll]⟩
  | d :: ds, h => by
    have a := h d List.mem_cons_self
    have b := RBs.all (ds := ds) fun e he => h e (List.mem_cons_of_mem _ he)
    refine ⟨by simp [okBs, a.ok, b.ok], ?_, ?_⟩
    · have := a.bulk; have := b.bulk
      have e : (n + 1) * (d :: ds).length = (n + 1) * ds.length + (n + 1) := by rw [List.length_cons, Nat.mul_add, Nat.mul_one]
      simp only [PyData.bulkAll]; omega
    · have := a.depth; have := b.depth
      simp only [PyData.depthAll]; omega
theorem RBs.map {α : Type} {n k m : Nat} {f : α → PyData} {xs : List α} (h : ∀ x ∈ xs, RB (f x) n k) (hm : xs.length ≤ m) : RBs (xs.map f) ((n + 1) * m) k := by
  have a := RBs.all (ds := xs.map f) (n := n) (k := k) fun d hd => by
    obtain ⟨x, hx, rfl⟩ := List.mem_map.mp hd
    exact h x hx
  refine ⟨a.ok, Nat.le_trans a.bulk (Nat.mul_le_mul_left _ (by simpa using hm)), a.depth⟩
theorem RB.mono {d : PyData} {n k m j : Nat} (h : RB d n k) (a : n ≤ m) (b : k ≤ j) : RB d m j := ⟨h.ok, Nat.le_trans h.bulk a, Nat.le_trans h.depth b⟩
theorem RB.pair {a b : PyData} {n m k j : Nat} (h1 : RB a n k) (h2 : RB b m j) : RB (.tuple [a, b]) (n + 1 + (m + 1 + 0)) (max k (max j 0) + 1) := (RBs.cons h1 (RBs.cons h2 RBs.nil)).tuple
theorem eqv_nil (xs : List PyData) : PyData.eqv (.list xs) (.list []) = xs.isEmpty := by
  cases xs <;> simp [PyData.eqv, PyData.eqvAll]
theorem shaped_nil : SeqAt.shaped (.list []) = true := by decide
theorem filt_no (l : List α) : l.filter (fun _ => false) = [] := by induction l <;> simp [*]
end MM
set_option Elab.async false
set_option linter.all false
set_option maxRecDepth 100000
set_option maxHeartbeats 1000000
/-! X9: what many laws share -/
namespace MM
open PySem PySem.Spec L2
def SPk : KC := fun ds P => match ds with
  | [d, .int n] => d = srcD ∧ n.natAbs < 2 ^ 63 ∧ ∀ r : Int, 0 ≤ r → r < max n 1 → P (.int r)
  | _ => False
def SOp : KC := fun ds P => match ds with
  | [d] => (∃ ns : List Int, d = scrD ns ∧ ns.length ≤ 63) ∧ P srcD
  | _ => False
theorem log_small {j : Int} (h : j.natAbs < 2 ^ 63) : j.natAbs.log2 < 9000 := by
  by_cases h0 : j.natAbs = 0
  · rw [h0]; decide
  · rw [Nat.log2_lt h0]
    exact Nat.lt_of_lt_of_le h (Nat.pow_le_pow_right (by decide) (by decide))
theorem log_big {j : Int} (h : j.natAbs < 2 ^ 200) : j.natAbs.log2 < 9000 := by
  by_cases h0 : j.natAbs = 0
  · rw [h0]; decide
  · rw [Nat.log2_lt h0]
    exact Nat.lt_of_lt_of_le h (Nat.pow_le_pow_right (by decide) (by decide))
theorem SPk_ok : ∀ ds P, SPk ds P → SPick ds P := by
  intro ds P h
  unfold SPk at h
  split at h
  · obtain ⟨rfl, h1, h2⟩ := h
    exact ⟨_, rfl, log_small h1, h2⟩
  · exact h.elim
theorem SOp_ok : ∀ ds P, SOp ds P → SOpen ds P := by
  intro ds P h
  unfold SOp at h
  split at h
  · obtain ⟨⟨ns, rfl, h1⟩, h2⟩ := h
    exact ⟨_, rfl, h1, h2⟩
  · exact h.elim
theorem sizeL : (10000 : Nat) ≤ sizeLine := by rw [sizeLine_eq]; decide
theorem sizeM : (16000000 : Nat) ≤ sizeLine := by rw [sizeLine_eq]; decide
theorem mulOk {i j : Int} (h : i.natAbs < 2 ^ 64) : IntMulOk i j := .of_left (intBits_le_64 (by omega) (by omega))
theorem mulOkR {i j : Int} (h : j.natAbs < 2 ^ 64) : IntMulOk i j := .of_right (intBits_le_64 (by omega) (by omega))
theorem sz1 : (1 ≤ sizeLine) = True := by rw [sizeLine_eq]; simp
theorem sz2 : (2 ≤ sizeLine) = True := by rw [sizeLine_eq]; simp
theorem sz3 : (3 ≤ sizeLine) = True := by rw [sizeLine_eq]; simp
theorem sz4 : (4 ≤ sizeLine) = True := by rw [sizeLine_eq]; simp
theorem sz5 : (5 ≤ sizeLine) = True := by rw [sizeLine_eq]; simp
theorem sz6 : (6 ≤ sizeLine) = True := by rw [sizeLine_eq]; simp
theorem sz7 : (7 ≤ sizeLine) = True := by rw [sizeLine_eq]; simp
theorem sz8 : (8 ≤ sizeLine) = True := by rw [sizeLine_eq]; simp
theorem sz9 : (9 ≤ sizeLine) = True := by rw [sizeLine_eq]; simp
theorem sz10 : (10 ≤ sizeLine) = True := by rw [sizeLine_eq]; simp
theorem sz11 : (11 ≤ sizeLine) = True := by rw [sizeLine_eq]; simp
theorem sz12 : (12 ≤ sizeLine) = True := by rw [sizeLine_eq]; simp
theorem ix_zero (a : PyData) (l : List PyData) (P : PyData → Prop) : (∃ d, atI (a :: l) 0 = some d ∧ P d) = P a := by
  have h : atI (a :: l) 0 = some a := atI_nat (xs := a :: l) (j := 0) rfl
  rw [h]
  exact propext ⟨fun ⟨d, e, q⟩ => by cases e; exact q, fun q => ⟨a, rfl, q⟩⟩
theorem ix_one (a b : PyData) (l : List PyData) (P : PyData → Prop) : (∃ d, atI (a :: b :: l) 1 = some d ∧ P d) = P b := by
  have h : atI (a :: b :: l) 1 = some b := atI_nat (xs := a :: b :: l) (j := 1) rfl
  rw [h]
  exact propext ⟨fun ⟨d, e, q⟩ => by cases e; exact q, fun q => ⟨b, rfl, q⟩⟩
theorem ix_last (l : List PyData) (b : PyData) (P : PyData → Prop) : (∃ d, atI (l ++ [b]) (-1) = some d ∧ P d) = P b := by
  rw [atI_last]
  exact propext ⟨fun ⟨d, e, q⟩ => by cases e; exact q, fun q => ⟨b, rfl, q⟩⟩
theorem sIx_none (n d : Nat) : HT.sIx n d none = d := by simp [HT.sIx]
theorem sIx_neg (n d : Nat) : HT.sIx (n + 1) d (some (-1)) = n := by
  simp [HT.sIx]
  try omega
theorem sIx_nat (n d k : Nat) (h : k ≤ n) : HT.sIx n d (some (k : Int)) = k := by
  simp only [HT.sIx]
  rw [if_neg (by omega)]
  omega
theorem cut_init (l : List PyData) (x : PyData) : cutD (l ++ [x]) none (some (-1)) = l := by
  unfold cutD
  rw [List.length_append, List.length_singleton, sIx_none, sIx_neg]
  simp
theorem cut_from (l : List PyData) (k : Nat) (h : k ≤ l.length) : cutD l (some (k : Int)) none = l.drop k := by
  unfold cutD
  rw [sIx_none, sIx_nat _ _ _ h]
  exact List.take_of_length_le (by rw [List.length_drop]; omega)
theorem cut_to (l : List PyData) (k : Nat) (h : k ≤ l.length) : cutD l none (some (k : Int)) = l.take k := by
  unfold cutD
  rw [sIx_none, sIx_nat _ _ _ h]; rfl
/-! ### rows of whole numbers -/
/-- two rising lists of the same members -/
theorem rise_ext {l m : List Int} (hl : l.Pairwise (· < ·)) (hm : m.Pairwise (· < ·)) (h : ∀ x, x ∈ l ↔ x ∈ m) : l = m := by
  have nl : l.Nodup := hl.imp fun h => by omega
  have nm : m.Nodup := hm.imp fun h => by omega
  have p : l.Perm m := (List.perm_ext_iff_of_nodup nl nm).mpr h
  exact p.eq_of_pairwise (le := (· < ·)) (fun a b _ _ h1 h2 => by omega) hl hm
def rng (a : Int) (n : Nat) : List Int := (List.range n).map fun (i : Nat) => a + (i : Int)
theorem mem_rng {a x : Int} {n : Nat} : x ∈ rng a n ↔ a ≤ x ∧ x < a + n := by
  unfold rng
  rw [List.mem_map]
  constructor
  · rintro ⟨i, hi, rfl⟩
    have := List.mem_range.mp hi
    omega
  · rintro ⟨h1, h2⟩
    exact ⟨(x - a).toNat, List.mem_range.mpr (by omega), by omega⟩
theorem rng_rise (a : Int) (n : Nat) : (rng a n).Pairwise (· < ·) := by
  unfold rng
  rw [List.pairwise_map]
  exact List.pairwise_lt_range.imp fun h => by omega
theorem rng_length (a : Int) (n : Nat) : (rng a n).length = n := by simp [rng]
theorem rng_succ (a : Int) (n : Nat) : rng a (n + 1) = rng a n ++ [a + n] := by
  unfold rng
  rw [List.range_succ, List.map_append]; rfl
theorem rng_zero (a : Int) : rng a 0 = [] := rfl
theorem range_ints (a : Int) (n : Nat) : rangeD a n = (rng a n).map PyData.int := by
  unfold rangeD rng
  rw [List.map_map]; rfl
/-- the part taken of a row tells the next one -/
theorem rng_pre {a x : Int} {n : Nat} {pre post : List Int} (h : rng a n = pre ++ x :: post) : x = a + pre.length ∧ pre.length < n ∧ pre = rng a pre.length := by
  have hl := congrArg List.length h
  rw [rng_length, List.length_append, List.length_cons] at hl
  have h1 : (rng a n)[pre.length]? = some x := by rw [h]; simp
  have h2 : (rng a n)[pre.length]? = some (a + (pre.length : Int)) := by
    unfold rng
    rw [List.getElem?_map, List.getElem?_range (by omega)]; rfl
  have h3 : pre = (rng a n).take pre.length := by rw [h]; simp
  refine ⟨by rw [h1] at h2; exact (Option.some.inj h2), by omega, ?_⟩
  have h4 : (rng a n).take pre.length = rng a pre.length := by
    unfold rng
    rw [← List.map_take, List.take_range, Nat.min_eq_left (by omega)]
  rw [← h4]; exact h3
/-! ### sums -/
def sumN : Nat → (Nat → Int) → Int
  | 0, _ => 0
  | n + 1, f => sumN n f + f n
theorem sumN_succ (n : Nat) (f : Nat → Int) : sumN (n + 1) f = sumN n f + f n := rfl
theorem sumN_nil (f : Nat → Int) : sumN 0 f = 0 := rfl
theorem sumN_congr {f g : Nat → Int} : ∀ n, (∀ i, i < n → f i = g i) → sumN n f = sumN n g
  | 0, _ => rfl
  | n + 1, h => by
    simp only [sumN_succ]
    rw [sumN_congr n fun i hi => h i (by omega), h n (by omega)]
theorem sumN_rng (a : Int) (f : Int → Int) : ∀ n, ((rng a n).map f).sum = sumN n fun i => f (a + (i : Int))
  | 0 => rfl
  | n + 1 => by
    rw [rng_succ, List.map_append, List.sum_append, sumN_rng a f n]
    simp [sumN]
theorem sumN_add {f g : Nat → Int} : ∀ n, sumN n (fun i => f i + g i) = sumN n f + sumN n g
  | 0 => rfl
  | n + 1 => by
    simp only [sumN_succ]
    rw [sumN_add n]; omega
theorem sumN_mul {c : Int} {f : Nat → Int} : ∀ n, sumN n (fun i => c * f i) = c * sumN n f
  | 0 => by simp [sumN]
  | n + 1 => by
    simp only [sumN_succ]
    rw [sumN_mul n, Int.mul_add]
theorem sumN_sub {f g : Nat → Int} : ∀ n, sumN n (fun i => f i - g i) = sumN n f - sumN n g
  | 0 => rfl
  | n + 1 => by
    simp only [sumN_succ]
    rw [sumN_sub n]; omega
theorem sumN_const {c : Int} : ∀ n : Nat, sumN n (fun _ => c) = n * c
  | 0 => by simp [sumN]
  | n + 1 => by
    simp only [sumN_succ]
    rw [sumN_const n]; grind
theorem sumN_zero {f : Nat → Int} (n : Nat) (h : ∀ i, i < n → f i = 0) : sumN n f = 0 := by
  rw [sumN_congr n h, sumN_const]; simp
theorem sumN_app {f : Nat → Int} (n : Nat) : ∀ m, sumN (n + m) f = sumN n f + sumN m fun i => f (n + i)
  | 0 => by simp [sumN]
  | m + 1 => by
    show sumN (n + m) f + f (n + m) = _
    rw [sumN_app n m]
    simp only [sumN]; omega
theorem sumN_swap {h : Nat → Nat → Int} (m : Nat) : ∀ n, sumN n (fun i => sumN m fun j => h i j) = sumN m fun j => sumN n fun i => h i j
  | 0 => by simp [sumN, sumN_const]
  | n + 1 => by
    simp only [sumN_succ]
    rw [sumN_swap m n, ← sumN_add]
theorem sumN_le {f g : Nat → Int} : ∀ n, (∀ i, i < n → f i ≤ g i) → sumN n f ≤ sumN n g
  | 0, _ => Int.le_refl _
  | n + 1, h => by
    have := sumN_le n fun i hi => h i (by omega)
    have := h n (by omega)
    simp only [sumN_succ]; omega
/-- the first k alone -/
theorem sumN_below {u : Nat → Int} (k : Nat) : ∀ e, k ≤ e → sumN e (fun j => if j < k then u j else 0) = sumN k u
  | 0, h => by
    have : k = 0 := by omega
    subst this; rfl
  | e + 1, h => by
    by_cases h2 : k = e + 1
    · subst h2
      exact sumN_congr _ fun i hi => by rw [if_pos hi]
    · rw [sumN_succ, sumN_below k e (by omega), if_neg (by omega)]; omega
theorem sumN_from {u : Nat → Int} (k : Nat) (e : Nat) (h : k ≤ e) : sumN e (fun j => if k ≤ j then u j else 0) = sumN e u - sumN k u := by
  have h1 : sumN e u = sumN e (fun j => if k ≤ j then u j else 0) + sumN e fun j => if j < k then u j else 0 := by
    rw [← sumN_add]
    refine sumN_congr _ fun i _ => ?_
    by_cases h : k ≤ i
    · rw [if_pos h, if_neg (by omega)]; omega
    · rw [if_neg h, if_pos (by omega)]; omega
  rw [h1, sumN_below k e h]; omega
theorem sum_range (f : Nat → Int) : ∀ n, ((List.range n).map f).sum = sumN n f
  | 0 => rfl
  | n + 1 => by
    rw [List.range_succ, List.map_append, List.sum_append, sum_range f n]
    simp [sumN]
theorem enumD_snoc (y : PyData) : ∀ (k : Nat) (xs : List PyData), enumD k (xs ++ [y]) = enumD k xs ++ [.tuple [.int ((k + xs.length : Nat) : Int), y]]
  | k, [] => rfl
  | k, x :: xs => by
    show _ :: enumD (k + 1) (xs ++ [y]) = _ :: (enumD (k + 1) xs ++ _)
    rw [enumD_snoc y (k + 1) xs, List.length_cons, show k + 1 + xs.length = k + (xs.length + 1) by omega]
theorem enumD_range (h : Nat → PyData) : ∀ n, enumD 0 ((List.range n).map h) = (List.range n).map fun (i : Nat) => PyData.tuple [.int (i : Int), h i]
  | 0 => rfl
  | n + 1 => by
    rw [List.range_succ, List.map_append, List.map_append, List.map_singleton, enumD_snoc, enumD_range h n]
    simp
/-- [f i for ..] of whole numbers, over what is told by 0, 1, .., n - 1 -/
theorem lc_ints {h : Nat → PyData} {f : Nat → Int} {g : RG} {t : RT} {r : RE} {env : En} {P : List PyData → Prop} (n : Nat) (hl : n ≤ 16000000)
    (hs : ∀ i, i < n → ∀ Q : Option PyData → Prop, Q (some (.int (f i))) → g env (h i) fun e => t e fun c => if c = true then r e fun y => Q (some y) else Q none) (hP : P ((List.range n).map fun i => .int (f i))) : lcR g t r env ((List.range n).map h) [] P :=
  lc_map h (fun i => .int (f i)) (List.range n) (by rw [List.length_range]; exact Nat.le_trans hl sizeM) (fun i hi => hs i (List.mem_range.mp hi)) hP
theorem sum_ints {f : Nat → Int} {n : Nat} {P : RP} (h : P (.int (sumN n f))) : kSum [.list ((List.range n).map fun i => PyData.int (f i))] P := by
  refine ⟨(List.range n).map f, by rw [List.map_map]; rfl, ?_⟩
  dsimp only
  rw [sum_range]; exact h
theorem sum_ifs (p : Nat → Bool) (f : Nat → Int) : ∀ n, (((List.range n).filter p).map f).sum = sumN n fun i => if p i = true then f i else 0
  | 0 => rfl
  | n + 1 => by
    rw [List.range_succ, List.filter_append, List.map_append, List.sum_append, sum_ifs p f n, sumN_succ, List.filter_cons]
    by_cases h : p n = true
    · rw [if_pos h, if_pos h]; simp
    · rw [if_neg h, if_neg h]; simp
/-- sum([f i for i in .. if p i]) -/
theorem lc_ifs {h : Nat → PyData} {p : Nat → Bool} {f : Nat → Int} {g : RG} {t : RT} {r : RE} {env : En} {P : RP} (n : Nat) (hl : n ≤ 16000000)
    (hs : ∀ i, i < n → ∀ Q : Option PyData → Prop, Q (if p i = true then some (.int (f i)) else none) → g env (h i) fun e => t e fun c => if c = true then r e fun y => Q (some y) else Q none) (hP : P (.int (sumN n fun i => if p i = true then f i else 0))) :
    lcR g t r env ((List.range n).map h) [] fun ys => kSum [.list ys] P :=
  lc_filt h p (fun i => .int (f i)) (List.range n) (by rw [List.length_range]; exact Nat.le_trans hl sizeM) (fun i hi => hs i (List.mem_range.mp hi)) ⟨((List.range n).filter p).map f, by rw [List.map_map]; rfl, by
    dsimp only
    rw [sum_ifs]; exact hP⟩
theorem sumN_bd {f : Nat → Int} {B : Nat} : ∀ n, (∀ i, i < n → (f i).natAbs ≤ B) → (sumN n f).natAbs ≤ n * B
  | 0, _ => by simp [sumN]
  | n + 1, h => by
    have h1 := sumN_bd n fun i hi => h i (by omega)
    have h2 := h n (by omega)
    rw [sumN_succ, Nat.add_mul]; omega
theorem sumN_shift {f : Nat → Int} : ∀ n, sumN (n + 1) f = f 0 + sumN n fun i => f (i + 1)
  | 0 => by simp [sumN]
  | n + 1 => by
    rw [sumN_succ, sumN_shift n, sumN_succ]; omega
theorem range_pre {x n : Nat} {pre post : List Nat} (h : List.range n = pre ++ x :: post) : x = pre.length ∧ x < n := by
  have hl := congrArg List.length h
  rw [List.length_range, List.length_append, List.length_cons] at hl
  have h1 : (List.range n)[pre.length]? = some x := by rw [h]; simp
  rw [List.getElem?_range (by omega)] at h1
  have := Option.some.inj h1
  omega
/-- for i in range -/
theorem for_rng (a : Int) (n : Nat) (I : Nat → En → Prop) {g : RG} {b : RS} {M : ME} {env : En} (h0 : I 0 env)
    (step : ∀ (i : Nat) e, i < n → I i e → ∀ M' : ME, (∀ e', I (i + 1) e' → M'.nx e') → (∀ e', I (i + 1) e' → M'.ct e') → M'.rt = M.rt → (∀ e', M.nx e' → M'.bk e') → g e (.int (a + (i : Int))) fun e' => b e' M')
    (hend : ∀ e, I n e → M.nx e) : forR g b (rangeD a n) env M := by
  unfold rangeD
  refine for_inv (fun i : Nat => PyData.int (a + (i : Int))) (fun pre e => I pre.length e) (List.range n) h0 (fun pre x post e hi hE M' hnx hct hrt hbk => ?_) fun e hE => ?_
  · obtain ⟨rfl, hx⟩ := range_pre hi
    rw [List.length_append, List.length_singleton] at hnx hct
    exact step _ e hx hE M' hnx hct hrt hbk
  · rw [List.length_range] at hE
    exact hend e hE
/-- while, by a number that falls -/
theorem while_g (I : Nat → En → Prop) {c : RT} {b : RS} {M : ME} {env : En} {n : Nat} (h0 : I n env)
    (step : ∀ f e, I f e → ∀ M' : ME, (∀ e' f', f' < f → I f' e' → M'.nx e') → (∀ e' f', f' < f → I f' e' → M'.ct e') → M'.rt = M.rt → (∀ e', M.nx e' → M'.bk e') → c e fun t => if t = true then b e M' else M.nx e) : rWhile c b env M := by
  refine ⟨n + 1, ?_⟩
  have key : ∀ n f e, f < n → I f e → whR c b n e M := by
    intro n
    induction n with
    | zero => intro f e h; omega
    | succ n ih =>
      intro f e h hI
      exact step f e hI _ (fun e' f' hl h' => ih f' e' (by omega) h') (fun e' f' hl h' => ih f' e' (by omega) h') rfl (fun e' h' => h')
  exact key _ n env (Nat.lt_succ_self _) h0
/-! ### common divisors -/
theorem gcd_step {a b : Int} (ha : 0 ≤ a) (hb : 0 < b) : Int.gcd b (a % b) = Int.gcd a b := by
  obtain ⟨m, rfl⟩ := Int.eq_ofNat_of_zero_le ha
  obtain ⟨n, rfl⟩ := Int.eq_ofNat_of_zero_le (show 0 ≤ b by omega)
  show Nat.gcd n (m % n) = Nat.gcd m n
  rw [Nat.gcd_comm n, ← Nat.gcd_rec, Nat.gcd_comm]
theorem gcd_abs (p q : Int) : Int.gcd (if p < 0 then -p else p) q = Int.gcd p q := by
  split
  · exact Int.neg_gcd
  · rfl
theorem gcd_abs2 (p q : Int) : Int.gcd p (if q < 0 then -q else q) = Int.gcd p q := by
  split
  · exact Int.gcd_neg
  · rfl
theorem low_pos {a b : Int} (ha : 0 < a) (hb : 0 < b) : 0 < a / (Int.gcd a b : Int) ∧ 0 < b / (Int.gcd a b : Int) ∧ Int.gcd (a / (Int.gcd a b : Int)) (b / (Int.gcd a b : Int)) = 1 ∧ a / (Int.gcd a b : Int) ≤ a ∧ b / (Int.gcd a b : Int) ≤ b ∧ (a < b → a / (Int.gcd a b : Int) < b / (Int.gcd a b : Int)) ∧ (∀ k, a ≤ k * b → a / (Int.gcd a b : Int) ≤ k * (b / (Int.gcd a b : Int))) := by
  have hg : 0 < Int.gcd a b := Int.gcd_pos_of_ne_zero_right a (by omega)
  obtain ⟨x, hx⟩ := Int.gcd_dvd_left a b
  obtain ⟨y, hy⟩ := Int.gcd_dvd_right a b
  have h1 := Int.gcd_ediv (Int.gcd_dvd_left a b) (Int.gcd_dvd_right a b)
  generalize hG : Int.gcd a b = G at *
  have ex : a / (G : Int) = x := by rw [hx]; exact Int.mul_ediv_cancel_left _ (by omega)
  have ey : b / (G : Int) = y := by rw [hy]; exact Int.mul_ediv_cancel_left _ (by omega)
  rw [ex, ey] at h1 ⊢
  have hx0 : 0 < x := Int.pos_of_mul_pos_right (by omega : 0 < (G : Int) * x) (by omega)
  have hy0 : 0 < y := Int.pos_of_mul_pos_right (by omega : 0 < (G : Int) * y) (by omega)
  refine ⟨hx0, hy0, by rw [h1]; simp; exact Nat.div_self hg, ?_, ?_, fun h => ?_, fun k h => ?_⟩
  · rw [hx]
    have := Int.mul_le_mul_of_nonneg_right (show (1 : Int) ≤ G by omega) (show 0 ≤ x by omega)
    omega
  · rw [hy]
    have := Int.mul_le_mul_of_nonneg_right (show (1 : Int) ≤ G by omega) (show 0 ≤ y by omega)
    omega
  · rw [hx, hy] at h
    exact Int.lt_of_mul_lt_mul_left h (by omega)
  · rw [hx, hy] at h
    refine Int.le_of_mul_le_mul_left (a := (G : Int)) ?_ (by omega)
    rw [← Int.mul_assoc, Int.mul_comm (G : Int) k, Int.mul_assoc]
    exact h
/-- a fraction in its lowest terms, from one of the same value -/
theorem low_of {a b p q : Int} (hq : 0 < q) (hb : 0 < b) (hg : Int.gcd p q = 1) (h : a * q = b * p) : a / (Int.gcd a b : Int) = p ∧ b / (Int.gcd a b : Int) = q := by
  have dv : q ∣ b := by
    have h1 : q ∣ p * b := ⟨a, by rw [Int.mul_comm p b, ← h, Int.mul_comm]⟩
    have hc : Nat.Coprime q.natAbs p.natAbs := Nat.Coprime.symm hg
    have h2 : q.natAbs ∣ p.natAbs * b.natAbs := by
      have := Int.natAbs_dvd_natAbs.mpr h1
      rwa [Int.natAbs_mul] at this
    exact Int.natAbs_dvd_natAbs.mp (hc.dvd_of_dvd_mul_left h2)
  obtain ⟨k, rfl⟩ := dv
  have ha : a = k * p := by
    have : q * a = q * (k * p) := by grind
    exact Int.eq_of_mul_eq_mul_left (by omega) this
  have hk : 0 < k := Int.pos_of_mul_pos_right hb (by omega)
  subst ha
  have e : (Int.gcd (k * p) (q * k) : Int) = k := by
    rw [Int.mul_comm q k, Int.gcd_mul_left, hg]
    omega
  rw [e]
  exact ⟨Int.mul_ediv_cancel_left _ (by omega), by rw [Int.mul_comm]; exact Int.mul_ediv_cancel_left _ (by omega)⟩
theorem ints_range : ∀ L : List Int, L.map PyData.int = (List.range L.length).map fun i => PyData.int (L.getD i 0)
  | [] => rfl
  | a :: L => by
    rw [List.length_cons, List.range_succ_eq_map, List.map_cons, List.map_cons, List.map_map, ints_range L]; rfl
theorem atI_getD {L : List Int} {i : Nat} (h : i < L.length) : atI (L.map PyData.int) (i : Int) = some (.int (L.getD i 0)) := by
  refine atI_nat ?_
  rw [List.getElem?_map, List.getD_eq_getElem?_getD, List.getElem?_eq_getElem h]; rfl
theorem rgc_up {a b c : Int} (hc : 0 < c) (hc2 : c < 1073741824) (ha : -(2 ^ 62) ≤ a) (ha' : a < 2 ^ 62) (hb : -(2 ^ 62) ≤ b) (hb' : b < 2 ^ 62) : RgC a b c (if a < b then ((b - a - 1) / c + 1).toNat else 0) := by
  have e : Builtin.Range.rangeSize a b c = ((if a < b then ((b - a - 1) / c + 1).toNat else 0 : Nat) : Int) := by
    unfold Builtin.Range.rangeSize
    rw [if_pos hc]
    split
    · have := Int.ediv_nonneg (show 0 ≤ b - a - 1 by omega) (show 0 ≤ c by omega)
      omega
    · rfl
  refine ⟨by omega, by omega, ?_, e⟩
  unfold Builtin.Range.small
  rw [e]
  have d1 : a < b → (b - a - 1) / c ≤ b - a - 1 := fun h => Int.ediv_le_self _ (by omega)
  have d0 : a < b → 0 ≤ (b - a - 1) / c := fun h => Int.ediv_nonneg (by omega) (by omega)
  rw [if_pos hc]
  simp only [Builtin.Range.rangeFitsLong, Bool.and_eq_true, Bool.or_eq_true, decide_eq_true_eq, beq_iff_eq]
  by_cases h : a < b
  · have := d1 h
    have := d0 h
    rw [if_pos h]
    omega
  · rw [if_neg h]
    omega
/-- [x for i in .. ], where every x is drawn -/
theorem lc_pick0 {ok : Int → Prop} {α : Type} (inj : α → PyData) {g : RG} {t : RT} {r : RE} {env : En} {P : List PyData → Prop} : ∀ (xs : List α) (acc : List Int), acc.length + xs.length ≤ sizeLine →
    (∀ x ∈ xs, ∀ Q : Option PyData → Prop, (∀ y : Int, ok y → Q (some (.int y))) → g env (inj x) fun e => t e fun c => if c = true then r e fun y => Q (some y) else Q none) →
    (∀ ns : List Int, ns.length = xs.length → (∀ y ∈ ns, ok y) → P ((acc ++ ns).map PyData.int)) → lcR g t r env (xs.map inj) (acc.map PyData.int) P
  | [], acc, _, _, hP => by
    have := hP [] rfl (fun y hy => by cases hy)
    rw [List.append_nil] at this
    simpa [lcR] using this
  | x :: xs, acc, hl, h, hP => by
    rw [List.map_cons]
    have hl' : acc.length + (xs.length + 1) ≤ sizeLine := hl
    refine h x List.mem_cons_self (fun o => match o with | some y => (acc.map PyData.int).length < sizeLine ∧ lcR g t r env (xs.map inj) (acc.map PyData.int ++ [y]) P | none => lcR g t r env (xs.map inj) (acc.map PyData.int) P) ?_
    intro y hy
    refine ⟨by rw [List.length_map]; omega, ?_⟩
    have e : acc.map PyData.int ++ [PyData.int y] = (acc ++ [y]).map PyData.int := by simp
    rw [e]
    refine lc_pick0 inj xs (acc ++ [y]) (by simp; omega) (fun z hz => h z (List.mem_cons_of_mem _ hz)) fun ns hn hk => ?_
    have := hP (y :: ns) (by simp [hn]) (fun z hz => by
      rcases List.mem_cons.mp hz with q | q
      · subst q; exact hy
      · exact hk z q)
    simpa using this
theorem lc_pick {h : Nat → PyData} (ok : Int → Prop) {g : RG} {t : RT} {r : RE} {env : En} {P : List PyData → Prop} (n : Nat) (hl : n ≤ 16000000)
    (hs : ∀ i, i < n → ∀ Q : Option PyData → Prop, (∀ y : Int, ok y → Q (some (.int y))) → g env (h i) fun e => t e fun c => if c = true then r e fun y => Q (some y) else Q none)
    (hP : ∀ ns : List Int, ns.length = n → (∀ y ∈ ns, ok y) → P (ns.map PyData.int)) : lcR g t r env ((List.range n).map h) [] P :=
  lc_pick0 (ok := ok) h (List.range n) [] (by rw [List.length_range]; exact Nat.le_trans (by simpa using hl) sizeM) (fun i hi => hs i (List.mem_range.mp hi)) (fun ns hn hk => by
    rw [List.length_range] at hn
    exact hP ns hn hk)
/-! slices of rows -/
theorem cut_dl {α : Type} (f : α → PyData) {L : List α} (h : L ≠ []) : cutD (L.map f) none (some (-1)) = L.dropLast.map f := by
  rw [← List.dropLast_concat_getLast h, List.map_append, List.map_singleton, cut_init, List.dropLast_concat]
theorem cut_tl {α : Type} (f : α → PyData) {L : List α} (h : L ≠ []) : cutD (L.map f) (some 1) none = L.tail.map f := by
  have := cut_from (L.map f) 1 (by rw [List.length_map]; exact List.length_pos_iff.mpr h)
  rw [show (some ((1 : Nat) : Int)) = some (1 : Int) from rfl] at this
  rw [this, List.drop_one, List.map_tail]
theorem cut_in {α : Type} (f : α → PyData) {L : List α} (h : 1 < L.length) : cutD (L.map f) (some 1) (some (-1)) = L.tail.dropLast.map f := by
  obtain ⟨n, hn⟩ : ∃ n, L.length = n + 1 := ⟨L.length - 1, by omega⟩
  unfold cutD
  rw [List.length_map, hn, sIx_neg, show (some (1 : Int)) = some ((1 : Nat) : Int) from rfl, sIx_nat _ _ _ (by omega), ← List.map_drop, ← List.map_take, List.drop_one, List.dropLast_eq_take, List.length_tail, hn]
  rfl
theorem cut_take {α : Type} (f : α → PyData) {L : List α} {k : Nat} (h : k ≤ L.length) : cutD (L.map f) none (some (k : Int)) = (L.take k).map f := by
  rw [cut_to _ _ (by rw [List.length_map]; exact h), List.map_take]
theorem cut_drop {α : Type} (f : α → PyData) {L : List α} {k : Nat} (h : k ≤ L.length) : cutD (L.map f) (some (k : Int)) none = (L.drop k).map f := by
  rw [cut_from _ _ (by rw [List.length_map]; exact h), List.map_drop]
theorem cut_two (G : List PyData) (x y : PyData) : cutD (G ++ [x, y]) (some (-2)) none = [x, y] := by
  unfold cutD
  rw [sIx_none]
  have : HT.sIx (G ++ [x, y]).length 0 (some (-2)) = G.length := by
    simp only [HT.sIx, List.length_append, List.length_cons, List.length_nil]
    rw [if_pos (by decide)]
    omega
  rw [this, List.drop_left]
  exact List.take_of_length_le (by simp)
theorem mulBig {i j : Int} (hi : i.natAbs < 2 ^ 400) (hj : j.natAbs < 2 ^ 400) : IntMulOk i j :=
  IntMulOk.of_le (intBits_le_iff.mpr hi) (intBits_le_iff.mpr hj) (by decide)
theorem snoc_of {L : List Int} (h : L ≠ []) : L.map PyData.int = L.dropLast.map PyData.int ++ [PyData.int (L.getLastD 0)] := by
  have e := List.dropLast_concat_getLast h
  have e2 : L.getLastD 0 = L.getLast h := by
    rw [List.getLastD_eq_getLast?, List.getLast?_eq_some_getLast h]; rfl
  rw [e2]
  have : L.map PyData.int = (L.dropLast ++ [L.getLast h]).map PyData.int := by rw [e]
  rw [this, List.map_append]; rfl
end MM
set_option Elab.async false
set_option linter.all false
set_option maxRecDepth 100000
set_option maxHeartbeats 1000000
/-! X10: ranges that go down; more helpers -/
namespace MM
open PySem PySem.Spec L2
theorem rgc_down {a b c : Int} (hc : c < 0) (hc2 : -1073741824 < c) (ha : -(2 ^ 62) ≤ a) (ha' : a < 2 ^ 62) (hb : -(2 ^ 62) ≤ b) (hb' : b < 2 ^ 62) : RgC a b c (if b < a then ((a - b - 1) / (-c) + 1).toNat else 0) := by
  have e : Builtin.Range.rangeSize a b c = ((if b < a then ((a - b - 1) / (-c) + 1).toNat else 0 : Nat) : Int) := by
    unfold Builtin.Range.rangeSize
    rw [if_neg (show ¬ c > 0 by omega)]
    split
    · have := Int.ediv_nonneg (show 0 ≤ a - b - 1 by omega) (show 0 ≤ -c by omega)
      omega
    · rfl
  refine ⟨by omega, by omega, ?_, e⟩
  unfold Builtin.Range.small
  rw [e]
  have d1 : b < a → (a - b - 1) / (-c) ≤ a - b - 1 := fun h => Int.ediv_le_self _ (by omega)
  have d0 : b < a → 0 ≤ (a - b - 1) / (-c) := fun h => Int.ediv_nonneg (by omega) (by omega)
  rw [if_neg (show ¬ c > 0 by omega)]
  simp only [Builtin.Range.rangeFitsLong, Bool.and_eq_true, Bool.or_eq_true, decide_eq_true_eq, beq_iff_eq]
  by_cases h : b < a
  · have := d1 h
    have := d0 h
    rw [if_pos h]
    omega
  · rw [if_neg h]
    omega
theorem rgc_back {n : Nat} (h : n ≤ 10 ^ 9) : RgC ((n : Int) - 1) (-1) (-1) n := by
  have := rgc_down (a := (n : Int) - 1) (b := -1) (c := -1) (by decide) (by decide) (by omega) (by omega) (by decide) (by decide)
  have e : (if (-1 : Int) < (n : Int) - 1 then (((n : Int) - 1 - -1 - 1) / (- -1) + 1).toNat else 0) = n := by
    rw [show (- -1 : Int) = 1 from rfl, Int.ediv_one]
    split <;> omega
  rwa [e] at this
theorem for_rngC (a c : Int) (n : Nat) (I : Nat → En → Prop) {g : RG} {b : RS} {M : ME} {env : En} (h0 : I 0 env)
    (step : ∀ (i : Nat) e, i < n → I i e → ∀ M' : ME, (∀ e', I (i + 1) e' → M'.nx e') → (∀ e', I (i + 1) e' → M'.ct e') → M'.rt = M.rt → (∀ e', M.nx e' → M'.bk e') → g e (.int (a + (i : Int) * c)) fun e' => b e' M')
    (hend : ∀ e, I n e → M.nx e) : forR g b (rangeC a c n) env M := by
  unfold rangeC
  refine for_inv (fun i : Nat => PyData.int (a + (i : Int) * c)) (fun pre e => I pre.length e) (List.range n) h0 (fun pre x post e hi hE M' hnx hct hrt hbk => ?_) fun e hE => ?_
  · obtain ⟨rfl, hx⟩ := range_pre hi
    rw [List.length_append, List.length_singleton] at hnx hct
    exact step _ e hx hE M' hnx hct hrt hbk
  · rw [List.length_range] at hE
    exact hend e hE
/-- natural numbers as data -/
abbrev nI (i : Nat) : PyData := .int (i : Int)
theorem atI_map {α : Type} (f : α → PyData) {L : List α} {i : Nat} {x : α} (h : L[i]? = some x) : atI (L.map f) (i : Int) = some (f x) := by
  refine atI_nat ?_
  rw [List.getElem?_map, h]; rfl
theorem nI_ints (L : List Nat) : L.map nI = (L.map fun i : Nat => (i : Int)).map PyData.int := by
  rw [List.map_map]; rfl
theorem log_of {j : Int} (k : Nat) (h : j.natAbs < 2 ^ k) (hk : k ≤ 8999) : j.natAbs.log2 < 9000 := by
  by_cases h0 : j.natAbs = 0
  · rw [h0]; decide
  · rw [Nat.log2_lt h0]
    exact Nat.lt_of_lt_of_le h (Nat.pow_le_pow_right (by decide) (by omega))
theorem atI_ints {L : List Int} {r : Int} (r0 : 0 ≤ r) (r1 : r < L.length) : ∃ x, x ∈ L ∧ atI (L.map PyData.int) r = some (.int x) := by
  obtain ⟨i, rfl⟩ := Int.eq_ofNat_of_zero_le r0
  have hi : i < L.length := by omega
  exact ⟨L[i], List.getElem_mem _, atI_map PyData.int (List.getElem?_eq_getElem hi)⟩
theorem atI_all' {L : List PyData} {r : Int} (r0 : 0 ≤ r) (r1 : r < L.length) : ∃ x, x ∈ L ∧ atI L r = some x := by
  obtain ⟨i, rfl⟩ := Int.eq_ofNat_of_zero_le r0
  have hi : i < L.length := by omega
  exact ⟨L[i], List.getElem_mem _, atI_nat (List.getElem?_eq_getElem hi)⟩
theorem sumA_of {ns : List Int} {P : RP} (h : P (.int ns.sum)) : kSumA [.list (ns.map PyData.int)] P := ⟨ns, rfl, h⟩
theorem lc_ifsA {h : Nat → PyData} {p : Nat → Bool} {f : Nat → Int} {g : RG} {t : RT} {r : RE} {env : En} {P : RP} (n : Nat) (hl : n ≤ 16000000)
    (hs : ∀ i, i < n → ∀ Q : Option PyData → Prop, Q (if p i = true then some (.int (f i)) else none) → g env (h i) fun e => t e fun c => if c = true then r e fun y => Q (some y) else Q none) (hP : P (.int (sumN n fun i => if p i = true then f i else 0))) :
    lcR g t r env ((List.range n).map h) [] fun ys => kSumA [.list ys] P :=
  lc_filt h p (fun i => .int (f i)) (List.range n) (by rw [List.length_range]; exact Nat.le_trans hl sizeM) (fun i hi => hs i (List.mem_range.mp hi)) ⟨((List.range n).filter p).map f, by rw [List.map_map]; rfl, by
    dsimp only
    rw [sum_ifs]; exact hP⟩
theorem shp1 (a : Int) : SeqAt.shaped (.tuple [.int a]) = true := by simp [SeqAt.shaped, PyData.canLay0, PyData.canLayAll0, PyData.depth, PyData.depthAll]
theorem shp2 (a b : Int) : SeqAt.shaped (.tuple [.int a, .int b]) = true := by simp [SeqAt.shaped, PyData.canLay0, PyData.canLayAll0, PyData.depth, PyData.depthAll]
theorem shp3 (a b c : Int) : SeqAt.shaped (.tuple [.int a, .int b, .int c]) = true := by simp [SeqAt.shaped, PyData.canLay0, PyData.canLayAll0, PyData.depth, PyData.depthAll]
theorem eqv2 (a b c d : Int) : PyData.eqv (.tuple [.int a, .int b]) (.tuple [.int c, .int d]) = decide (a = c ∧ b = d) := by
  by_cases h1 : a = c <;> by_cases h2 : b = d <;> simp [PyData.eqv, PyData.eqvAll, h1, h2]
theorem eqv3 (a b c d e f : Int) : PyData.eqv (.tuple [.int a, .int b, .int c]) (.tuple [.int d, .int e, .int f]) = decide (a = d ∧ b = e ∧ c = f) := by
  by_cases h1 : a = d <;> by_cases h2 : b = e <;> by_cases h3 : c = f <;> simp [PyData.eqv, PyData.eqvAll, h1, h2, h3]
theorem RB.self {d : PyData} (h : okB d = true) : RB d d.bulk d.depth := ⟨h, Nat.le_refl _, Nat.le_refl _⟩
theorem low_scale {k p q : Int} (hk : 0 < k) (hq : 0 < q) : (k * p) / (Int.gcd (k * p) (k * q) : Int) = p / (Int.gcd p q : Int) ∧ (k * q) / (Int.gcd (k * p) (k * q) : Int) = q / (Int.gcd p q : Int) := by
  have e : ((Int.gcd (k * p) (k * q) : Nat) : Int) = k * (Int.gcd p q : Nat) := by
    rw [Int.gcd_mul_left, Int.natCast_mul, show (k.natAbs : Int) = k by omega]
  rw [e]
  exact ⟨Int.mul_ediv_mul_of_pos _ _ hk, Int.mul_ediv_mul_of_pos _ _ hk⟩
/-- not by rfl: the kernel would open what comes behind first -/
theorem rPass_nx (env : En) (M : ME) : rPass env M = M.nx env := propext ⟨fun h => h, fun h => h⟩
/-- slots of which nothing is known -/
theorem len_succ {r : En} {n : Nat} (h : r.length = n + 1) : ∃ a t, r = a :: t ∧ t.length = n := by
  cases r with
  | nil => cases h
  | cons a t => exact ⟨a, t, rfl, by simpa using h⟩
theorem len_zero {r : En} (h : r.length = 0) : r = [] := List.eq_nil_of_length_eq_zero h
/-- script, source, whatever -/
def Rest (ns : List Int) (n : Nat) (e : En) : Prop := ∃ r : En, e = .f (scrD ns) :: .f srcD :: r ∧ r.length = n
end MM
set_option Elab.async false
set_option linter.all false
set_option maxRecDepth 100000
set_option maxHeartbeats 1000000
/-! X11: papers: values of any kind, their heads -/
namespace MM
open PySem PySem.Spec L2 PyProof.Rows
theorem tup1_free (i : Int) : 39 ∉ (PyData.tuple [.int i]).shown.cps.toList := by
  rw [PyData.shown_tuple]
  simp only [PyData.shownAll, join_one, List.length_singleton]
  rw [cps_toList_append, cps_toList_append]
  intro h
  rcases List.mem_append.mp h with h | h
  · rcases List.mem_append.mp h with h | h
    · revert h; decide
    · exact shown_int_free' ⟨by decide, by decide⟩ i h
  · rw [if_pos (by decide)] at h
    revert h; decide
theorem tup1_ne {i : Int} {s : Str} (h : 39 ∈ s.cps.toList) : (PyData.tuple [.int i]).shown ≠ s := fun e => tup1_free i (e ▸ h)
theorem eqF_str (a b : Str) : eqF (.str a) (.str b) = decide (a = b) := by
  show (a == b) = decide (a = b)
  by_cases h : a = b
  · subst h; simp
  · rw [decide_eq_false h]; exact beq_false_of_ne h
theorem ty_lay {d : PyData} (h : d.canLay0 = true) : tyD d ≠ none := by
  cases d <;> simp [tyD, PyData.canLay0] at h ⊢
theorem lay_all {ds : List PyData} (h : PyData.canLayAll0 ds = true) : ∀ u ∈ ds, u.canLay0 = true := by
  induction ds with
  | nil => intro u hu; cases hu
  | cons x l ih =>
    intro u hu
    have h2 : x.canLay0 = true ∧ PyData.canLayAll0 l = true := by simpa [PyData.canLayAll0] using h
    rcases List.mem_cons.mp hu with rfl | h3
    · exact h2.1
    · exact ih h2.2 u h3
theorem repr_shaped {d : PyData} (h : ReprOk d) : SeqAt.shaped d = true := by
  unfold SeqAt.shaped
  have := h.2.2.2
  rw [h.1, Bool.true_and, decide_eq_true_eq]
  omega
theorem eqvt_nil (xs : List PyData) : PyData.eqv (.tuple xs) (.tuple []) = xs.isEmpty := by
  cases xs <;> simp [PyData.eqv, PyData.eqvAll]
theorem cut_one_none (x : PyData) (t : List PyData) : cutD (x :: t) (some 1) none = t := cut_from (x :: t) 1 (by simp)
theorem cut_none_one (x : PyData) (t : List PyData) : cutD (x :: t) none (some 1) = [x] := cut_to (x :: t) 1 (by simp)
theorem lay_of : ∀ {es : List PyData}, (∀ u ∈ es, u.canLay0 = true ∧ u.depth ≤ 59) → PyData.canLayAll0 es = true ∧ PyData.depthAll es ≤ 59
  | [], _ => by simp [PyData.canLayAll0, PyData.depthAll]
  | x :: l, h => by
    have h1 := h x (by simp)
    have h2 := lay_of (es := l) fun u hu => h u (by simp [hu])
    simp only [PyData.canLayAll0, PyData.depthAll, h1.1, h2.1, Bool.and_self, true_and]
    omega
theorem shaped_all {es : List PyData} (h : ∀ u ∈ es, u.canLay0 = true ∧ u.depth ≤ 59) : SeqAt.shaped (.list es) = true ∧ SeqAt.shaped (.tuple es) = true := by
  obtain ⟨h1, h2⟩ := lay_of h
  have e1 : (PyData.list es).depth = PyData.depthAll es + 1 := by simp [PyData.depth]
  have e2 : (PyData.tuple es).depth = PyData.depthAll es + 1 := by simp [PyData.depth]
  have e3 : (PyData.list es).canLay0 = true := by simp [PyData.canLay0, h1]
  have e4 : (PyData.tuple es).canLay0 = true := by simp [PyData.canLay0, h1]
  unfold SeqAt.shaped
  rw [e1, e2, e3, e4]
  have : PyData.depthAll es + 1 ≤ 64 := by omega
  exact ⟨by simp [this], by simp [this]⟩
theorem depth_all : ∀ {ds : List PyData} {n : Nat}, PyData.depthAll ds ≤ n → ∀ u ∈ ds, u.depth ≤ n
  | [], _, _, u, hu => by cases hu
  | x :: l, n, h, u, hu => by
    simp only [PyData.depthAll] at h
    rcases List.mem_cons.mp hu with rfl | h3
    · omega
    · exact depth_all (ds := l) (by omega) u h3
/-- the members of a value that can be shown -/
theorem repr_mem {ds : List PyData} (h : ReprOk (.tuple ds)) : ∀ u ∈ ds, u.canLay0 = true ∧ u.depth ≤ 59 := fun u hu => by
  have h1 : PyData.canLayAll0 ds = true := by simpa [PyData.canLay0] using h.1
  have h2 : PyData.depthAll ds ≤ 59 := by
    have := h.2.2.2
    simp only [PyData.depth] at this
    omega
  exact ⟨lay_all h1 u hu, depth_all h2 u hu⟩
theorem ix_two (a b c : PyData) (l : List PyData) (P : PyData → Prop) : (∃ d, atI (a :: b :: c :: l) 2 = some d ∧ P d) = P c := by
  have h : atI (a :: b :: c :: l) 2 = some c := atI_nat (xs := a :: b :: c :: l) (j := 2) rfl
  rw [h]
  exact propext ⟨fun ⟨d, e, q⟩ => by cases e; exact q, fun q => ⟨c, rfl, q⟩⟩
theorem ix_three (a b c e : PyData) (l : List PyData) (P : PyData → Prop) : (∃ d, atI (a :: b :: c :: e :: l) 3 = some d ∧ P d) = P e := by
  have h : atI (a :: b :: c :: e :: l) 3 = some e := atI_nat (xs := a :: b :: c :: e :: l) (j := 3) rfl
  rw [h]
  exact propext ⟨fun ⟨d, e, q⟩ => by cases e; exact q, fun q => ⟨e, rfl, q⟩⟩
/-- a whole number, no truth value -/
def isW : PyData → Bool
  | .int _ => true
  | _ => false
/-- unpacking, not by rfl (the kernel would open what comes behind first) -/
theorem rgTup2 (i j : Nat) (env : En) (x y : PyData) (P : En → Prop) : rgTup 2 (rgCons (rgName i) (rgCons (rgName j) rgNil)) env (.tuple [x, y]) P = P ((env.set i (.f x)).set j (.f y)) := propext ⟨fun h => h.2, fun h => ⟨rfl, h⟩⟩
theorem rgTup3 (i j k : Nat) (env : En) (x y z : PyData) (P : En → Prop) : rgTup 3 (rgCons (rgName i) (rgCons (rgName j) (rgCons (rgName k) rgNil))) env (.tuple [x, y, z]) P = P (((env.set i (.f x)).set j (.f y)).set k (.f z)) := propext ⟨fun h => h.2, fun h => ⟨rfl, h⟩⟩
theorem rgTup22 (i j k l : Nat) (env : En) (x y z t : PyData) (P : En → Prop) : rgTup 2 (rgCons (rgTup 2 (rgCons (rgName i) (rgCons (rgName j) rgNil))) (rgCons (rgTup 2 (rgCons (rgName k) (rgCons (rgName l) rgNil))) rgNil)) env (.tuple [.tuple [x, y], .tuple [z, t]]) P = P ((((env.set i (.f x)).set j (.f y)).set k (.f z)).set l (.f t)) := propext ⟨fun h => h.2.2.2, fun h => ⟨rfl, rfl, rfl, h⟩⟩
/-- [x for i in .. ], where every x is drawn, of any kind -/
theorem lc_pickG0 {β : Type} (f : β → PyData) {ok : β → Prop} {α : Type} (inj : α → PyData) {g : RG} {t : RT} {r : RE} {env : En} {P : List PyData → Prop} : ∀ (xs : List α) (acc : List β), acc.length + xs.length ≤ sizeLine →
    (∀ x ∈ xs, ∀ Q : Option PyData → Prop, (∀ y : β, ok y → Q (some (f y))) → g env (inj x) fun e => t e fun c => if c = true then r e fun y => Q (some y) else Q none) →
    (∀ ns : List β, ns.length = xs.length → (∀ y ∈ ns, ok y) → P ((acc ++ ns).map f)) → lcR g t r env (xs.map inj) (acc.map f) P
  | [], acc, _, _, hP => by
    have := hP [] rfl (fun y hy => by cases hy)
    rw [List.append_nil] at this
    simpa [lcR] using this
  | x :: xs, acc, hl, h, hP => by
    rw [List.map_cons]
    have hl' : acc.length + (xs.length + 1) ≤ sizeLine := hl
    refine h x List.mem_cons_self (fun o => match o with | some y => (acc.map f).length < sizeLine ∧ lcR g t r env (xs.map inj) (acc.map f ++ [y]) P | none => lcR g t r env (xs.map inj) (acc.map f) P) ?_
    intro y hy
    refine ⟨by rw [List.length_map]; omega, ?_⟩
    have e : acc.map f ++ [f y] = (acc ++ [y]).map f := by simp
    rw [e]
    refine lc_pickG0 f inj xs (acc ++ [y]) (by simp; omega) (fun z hz => h z (List.mem_cons_of_mem _ hz)) fun ns hn hk => ?_
    have := hP (y :: ns) (by simp [hn]) (fun z hz => by
      rcases List.mem_cons.mp hz with q | q
      · subst q; exact hy
      · exact hk z q)
    simpa using this
theorem lc_pickG {β : Type} (f : β → PyData) {h : Nat → PyData} (ok : β → Prop) {g : RG} {t : RT} {r : RE} {env : En} {P : List PyData → Prop} (n : Nat) (hl : n ≤ 16000000)
    (hs : ∀ i, i < n → ∀ Q : Option PyData → Prop, (∀ y : β, ok y → Q (some (f y))) → g env (h i) fun e => t e fun c => if c = true then r e fun y => Q (some y) else Q none)
    (hP : ∀ ns : List β, ns.length = n → (∀ y ∈ ns, ok y) → P (ns.map f)) : lcR g t r env ((List.range n).map h) [] P :=
  lc_pickG0 f (ok := ok) h (List.range n) [] (by rw [List.length_range]; exact Nat.le_trans (by simpa using hl) sizeM) (fun i hi => hs i (List.mem_range.mp hi)) (fun ns hn hk => by
    rw [List.length_range] at hn
    exact hP ns hn hk)
end MM
set_option Elab.async false
set_option linter.all false
set_option maxRecDepth 100000
set_option maxHeartbeats 1000000
/-! X12: equality of rows of values of one kind -/
namespace MM
open PySem PySem.Spec L2 PyProof.Rows
theorem eqvInt (a b : Int) : PyData.eqv (.int a) (.int b) = decide (a = b) := by
  by_cases h : a = b <;> simp [PyData.eqv, h]
theorem eqvAll_of {α : Type} [DecidableEq α] {f : α → PyData} (h : ∀ a b, PyData.eqv (f a) (f b) = decide (a = b)) : ∀ L M : List α, PyData.eqvAll (L.map f) (M.map f) = decide (L = M)
  | [], [] => by simp [PyData.eqvAll]
  | [], b :: M => by simp [PyData.eqvAll]
  | a :: L, [] => by simp [PyData.eqvAll]
  | a :: L, b :: M => by
    simp only [List.map_cons]
    unfold PyData.eqvAll
    rw [h, eqvAll_of h L M]
    by_cases h1 : a = b <;> by_cases h2 : L = M <;> simp [h1, h2]
theorem eqvL_of {α : Type} [DecidableEq α] {f : α → PyData} (h : ∀ a b, PyData.eqv (f a) (f b) = decide (a = b)) (L M : List α) : PyData.eqv (.list (L.map f)) (.list (M.map f)) = decide (L = M) := by
  rw [← eqvAll_of h L M]
  simp only [PyData.eqv]
theorem eqvT_of {α : Type} [DecidableEq α] {f : α → PyData} (h : ∀ a b, PyData.eqv (f a) (f b) = decide (a = b)) (L M : List α) : PyData.eqv (.tuple (L.map f)) (.tuple (M.map f)) = decide (L = M) := by
  rw [← eqvAll_of h L M]
  simp only [PyData.eqv]
theorem eqvLI (L M : List Int) : PyData.eqv (.list (L.map PyData.int)) (.list (M.map PyData.int)) = decide (L = M) := eqvL_of eqvInt L M
theorem eqvTI (L M : List Int) : PyData.eqv (.tuple (L.map PyData.int)) (.tuple (M.map PyData.int)) = decide (L = M) := eqvT_of eqvInt L M
theorem RBs.ints {L : List Int} {m : Nat} (h : ∀ x ∈ L, x.natAbs < 10 ^ 60) (hl : L.length ≤ m) : RBs (L.map PyData.int) m 0 := by
  have := RBs.map (n := 0) (k := 0) (f := PyData.int) (xs := L) (fun x hx => RB.int (h x hx)) hl
  simpa using this
/-- [f x for x in xs if ..], where every condition is drawn -/
theorem lc_sub0 {α : Type} (inj f : α → PyData) {g : RG} {t : RT} {r : RE} {env : En} {P : List PyData → Prop} : ∀ (xs : List α) (acc : List PyData), acc.length + xs.length ≤ sizeLine →
    (∀ x ∈ xs, ∀ Q : Option PyData → Prop, (∀ b : Bool, Q (if b = true then some (f x) else none)) → g env (inj x) fun e => t e fun c => if c = true then r e fun y => Q (some y) else Q none) →
    (∀ ys : List α, ys.Sublist xs → P (acc ++ ys.map f)) → lcR g t r env (xs.map inj) acc P
  | [], acc, _, _, hP => by
    have := hP [] (List.Sublist.refl _)
    simpa [lcR] using this
  | x :: xs, acc, hl, h, hP => by
    rw [List.map_cons]
    have hl' : acc.length + (xs.length + 1) ≤ sizeLine := hl
    refine h x List.mem_cons_self (fun o => match o with | some y => acc.length < sizeLine ∧ lcR g t r env (xs.map inj) (acc ++ [y]) P | none => lcR g t r env (xs.map inj) acc P) ?_
    intro b
    cases b with
    | true =>
      refine ⟨by omega, lc_sub0 inj f xs (acc ++ [f x]) (by simp; omega) (fun z hz => h z (List.mem_cons_of_mem _ hz)) fun ys hy => ?_⟩
      have := hP (x :: ys) (hy.cons₂ x)
      simpa using this
    | false => exact lc_sub0 inj f xs acc (by omega) (fun z hz => h z (List.mem_cons_of_mem _ hz)) fun ys hy => hP ys (hy.cons x)
theorem lc_sub {α : Type} (inj f : α → PyData) {g : RG} {t : RT} {r : RE} {env : En} {P : List PyData → Prop} (xs : List α) (hl : xs.length ≤ sizeLine)
    (h : ∀ x ∈ xs, ∀ Q : Option PyData → Prop, (∀ b : Bool, Q (if b = true then some (f x) else none)) → g env (inj x) fun e => t e fun c => if c = true then r e fun y => Q (some y) else Q none)
    (hP : ∀ ys : List α, ys.Sublist xs → P (ys.map f)) : lcR g t r env (xs.map inj) [] P :=
  lc_sub0 inj f xs [] (by simpa using hl) h fun ys hy => by simpa using hP ys hy
theorem eqF_int (x y : Int) : eqF (PyData.int x) (PyData.int y) = decide (x = y) := rfl
theorem anyInts (L : List Int) (x : Int) : ((L.map PyData.int).any fun y => eqF y (.int x)) = decide (x ∈ L) := by
  rw [List.any_map]
  by_cases h : x ∈ L
  · rw [decide_eq_true h, List.any_eq_true]
    exact ⟨x, h, by show eqF (.int x) (.int x) = true; rw [eqF_int, decide_eq_true rfl]⟩
  · rw [decide_eq_false h, List.any_eq_false]
    intro y hy
    show ¬ eqF (.int y) (.int x) = true
    rw [eqF_int, decide_eq_false (fun e : y = x => h (e ▸ hy))]
    decide
theorem flatInts (L : List Int) : (L.map PyData.int).all flatD = true := by
  rw [List.all_map, List.all_eq_true]
  intro y _
  rfl
/-- sorted rows stay -/
theorem sorted_stays {L M : List Int} (h : L.Pairwise (· ≤ ·)) (hp : M.Perm L) (hM : M.Pairwise (· ≤ ·)) : M = L :=
  hp.eq_of_pairwise (fun a b _ _ h1 h2 => Int.le_antisymm h1 h2) hM h
theorem cut_none_two (x y : PyData) (t : List PyData) : cutD (x :: y :: t) none (some 2) = [x, y] := cut_to (x :: y :: t) 2 (by simp)
end MM
set_option Elab.async false
set_option linter.all false
set_option maxRecDepth 100000
set_option maxHeartbeats 1000000
/-! X13: sorted of pairs of whole numbers -/
namespace MM
open PySem PySem.Spec L2 PyProof.Rows
def pD (p : Int × Int) : PyData := .tuple [.int p.1, .int p.2]
def kSortP : KC := fun xs P => match xs with
  | [.list ds] => ∃ ps : List (Int × Int), ds = ps.map pD ∧ (ps.length < 64 ∧ ∀ p ∈ ps, (0 ≤ p.1 ∧ p.1 < 1000000000000) ∧ 0 ≤ p.2 ∧ p.2 < 1000000000000) ∧
    ∀ qs : List (Int × Int), qs.Perm ps → qs.Pairwise (fun a b => a.1 * 1000000000000 + a.2 ≤ b.1 * 1000000000000 + b.2) → P (.list (qs.map pD))
  | _ => False
theorem DmAll.permP {K : PySem.W.Frag} {W : Wd} {ys vs : List V} (h : ys.Perm vs) : ∀ {ps : List (Int × Int)}, DmAll K W vs (ps.map pD) → ∃ qs : List (Int × Int), qs.Perm ps ∧ DmAll K W ys (qs.map pD) := by
  induction h with
  | nil => intro ps d; exact ⟨ps, .refl _, d⟩
  | cons x _ ih =>
    intro ps d
    cases ps with
    | nil => cases d
    | cons p ps =>
      cases d with
      | cons d1 d2 =>
        obtain ⟨qs, h1, h2⟩ := ih d2
        exact ⟨p :: qs, h1.cons p, .cons d1 h2⟩
  | swap x y l =>
    intro ps d
    match ps, d with
    | [], d => cases d
    | [p], d => cases d with | cons d1 d2 => cases d2
    | p :: q :: ps, d =>
      cases d with
      | cons d1 d2 =>
        cases d2 with
        | cons d2 d3 => exact ⟨q :: p :: ps, List.Perm.swap p q ps, .cons d2 (.cons d1 d3)⟩
  | trans _ _ ih1 ih2 =>
    intro ps d
    obtain ⟨qs, h1, h2⟩ := ih2 d
    obtain ⟨rs, h3, h4⟩ := ih1 h2
    exact ⟨rs, h3.trans h1, h4⟩
theorem Dm.tupI {K : PySem.W.Frag} {W : Wd} {H : Hp} {v : V} {p : Int × Int} (ok : WOk W H) (h : Dm K W v (pD p)) : TupI K H v [p.1, p.2] := by
  cases h with
  | tup h1 h2 =>
    have := DmAll.ints (ns := [p.1, p.2]) h2
    subst this
    exact ⟨_, rfl, SqT.gr ok.fh h1⟩
theorem DmAll.memP {K : PySem.W.Frag} {W : Wd} {vs : List V} {ps : List (Int × Int)} (h : DmAll K W vs (ps.map pD)) {p : Int × Int} (hp : p ∈ ps) : ∃ v ∈ vs, Dm K W v (pD p) := by
  obtain ⟨i, hi, e⟩ := List.getElem_of_mem hp
  obtain ⟨v, h1, h2⟩ := h.get (i := i) (d := pD p) (by rw [List.getElem?_map, List.getElem?_eq_getElem hi, e]; rfl)
  exact ⟨v, List.mem_of_getElem? h1, h2⟩
theorem DmAll.memV {K : PySem.W.Frag} {W : Wd} {vs : List V} {ps : List (Int × Int)} (h : DmAll K W vs (ps.map pD)) {v : V} (hv : v ∈ vs) : ∃ p ∈ ps, Dm K W v (pD p) := by
  obtain ⟨i, hi, e⟩ := List.getElem_of_mem hv
  obtain ⟨d, h1, h2⟩ := h.get' (i := i) (v := v) (by rw [List.getElem?_eq_getElem hi, e])
  rw [List.getElem?_map] at h1
  cases hp : ps[i]? with
  | none => rw [hp] at h1; cases h1
  | some p =>
    rw [hp] at h1
    cases h1
    exact ⟨p, List.mem_of_getElem? hp, h2⟩
theorem DmAll.pwP {K : PySem.W.Frag} {W : Wd} {H : Hp} (ok : WOk W H) : ∀ {qs : List (Int × Int)} {ys : List V}, DmAll K W ys (qs.map pD) → ys.Pairwise (fun x y => ∀ n m, TupI K H x n → TupI K H y m → TS.code 1000000000000 n ≤ TS.code 1000000000000 m) → qs.Pairwise (fun a b => a.1 * 1000000000000 + a.2 ≤ b.1 * 1000000000000 + b.2)
  | [], _, _, _ => .nil
  | q :: qs, _, .cons d1 d2, h => by
    rw [List.pairwise_cons] at h ⊢
    refine ⟨fun p hp => ?_, DmAll.pwP ok d2 h.2⟩
    obtain ⟨v, hv, dv⟩ := d2.memP hp
    have := h.1 v hv _ _ (d1.tupI ok) (dv.tupI ok)
    simp only [TS.code, List.length_cons, List.length_nil] at this
    omega
section
variable {X : Cx}
theorem cf_sortP : CallF X (.builtin "sorted") kSortP := by
  intro pins s σ H xs us Q I r ⟨W, ds, P, ok, wa, hk, hq⟩
  unfold kSortP at hk
  split at hk
  · obtain ⟨v, rfl, w⟩ := wa.one
    obtain ⟨ps, rfl, ⟨h64, hb⟩, hk⟩ := hk
    obtain ⟨a, ys, rfl, h1, dms⟩ := w.lst ok
    refine cr_sortT (d := 2) (B := 1000000000000) (by decide) pins s σ H _ us Q I r ⟨a, ys, rfl, SqL.of h1, by rw [dms.length, List.length_map]; exact h64, fun x hx => ?_, fun zs p hp hpw hn => ?_⟩
    · obtain ⟨p, hp, d⟩ := dms.memV hx
      have := hb p hp
      refine ⟨_, d.tupI ok, rfl, fun m hm => ?_⟩
      simp only [List.mem_cons, List.not_mem_nil, or_false] at hm
      rcases hm with rfl | rfl <;> omega
    · obtain ⟨qs, h2, h3⟩ := dms.permP hp
      obtain ⟨o4, g4, fr⟩ := freshO ok hn h3
      exact hq _ (hk qs h2 (h3.pwP ok hpw)) _ _ _ o4 g4 fr
  · exact hk.elim
end
theorem rgTup4 (i j k l : Nat) (env : En) (x y z t : PyData) (P : En → Prop) : rgTup 4 (rgCons (rgName i) (rgCons (rgName j) (rgCons (rgName k) (rgCons (rgName l) rgNil)))) env (.tuple [x, y, z, t]) P = P ((((env.set i (.f x)).set j (.f y)).set k (.f z)).set l (.f t)) := propext ⟨fun h => h.2, fun h => ⟨rfl, h⟩⟩
theorem rgLst2 (i j : Nat) (env : En) (x y : PyData) (P : En → Prop) : rgLst 2 (rgCons (rgName i) (rgCons (rgName j) rgNil)) env (.list [x, y]) P = P ((env.set i (.f x)).set j (.f y)) := propext ⟨fun h => h.2, fun h => ⟨rfl, h⟩⟩
theorem zipM {α β : Type} (f : α → PyData) (g : β → PyData) : ∀ (xs : List α) (ys : List β), zipD (xs.map f) (ys.map g) = (xs.zip ys).map fun p => .tuple [f p.1, g p.2]
  | [], _ => rfl
  | _ :: _, [] => rfl
  | x :: xs, y :: ys => by
    show _ :: zipD (xs.map f) (ys.map g) = _
    rw [zipM f g xs ys]; rfl
/-- over a range from 0: those of which p holds -/
theorem lc_rfilt {p : Nat → Bool} {g : RG} {t : RT} {r : RE} {env : En} {P : List PyData → Prop} (n : Nat) (hl : n ≤ 10000)
    (h : ∀ i, i < n → ∀ Q : Option PyData → Prop, Q (if p i = true then some (.int (i : Int)) else none) → g env (.int (i : Int)) fun e => t e fun c => if c = true then r e fun y => Q (some y) else Q none) (hP : P (((List.range n).filter p).map fun i : Nat => PyData.int (i : Int))) : lcR g t r env (rangeD 0 n) [] P := by
  have e : rangeD 0 n = (List.range n).map fun i : Nat => PyData.int (i : Int) := by
    show ((List.range n).map fun i : Nat => PyData.int (0 + (i : Int))) = _
    exact List.map_congr_left fun i _ => by rw [Int.zero_add]
  rw [e]
  exact lc_filt (fun i : Nat => PyData.int (i : Int)) p (fun i : Nat => PyData.int (i : Int)) (List.range n) (by rw [List.length_range]; exact Nat.le_trans hl sizeL) (fun i hi => h i (List.mem_range.mp hi)) hP
theorem lc_mapId (f : PyData → PyData) {g : RG} {t : RT} {r : RE} {env : En} {P : List PyData → Prop} (xs : List PyData) (hl : xs.length ≤ sizeLine)
    (h : ∀ x ∈ xs, ∀ Q : Option PyData → Prop, Q (some (f x)) → g env x fun e => t e fun c => if c = true then r e fun y => Q (some y) else Q none) (hP : P (xs.map f)) : lcR g t r env xs [] P := by
  have := lc_map (fun d => d) f xs hl h hP
  rwa [List.map_id'] at this
theorem lc_filtId (p : PyData → Bool) {g : RG} {t : RT} {r : RE} {env : En} {P : List PyData → Prop} (xs : List PyData) (hl : xs.length ≤ sizeLine)
    (h : ∀ x ∈ xs, ∀ Q : Option PyData → Prop, Q (if p x = true then some x else none) → g env x fun e => t e fun c => if c = true then r e fun y => Q (some y) else Q none) (hP : P (xs.filter p)) : lcR g t r env xs [] P := by
  have := lc_filt (fun d => d) p (fun d => d) (P := P) (g := g) (t := t) (r := r) (env := env) xs hl h (by rwa [List.map_id'])
  rwa [List.map_id'] at this
theorem iteP {c : Prop} [Decidable c] {P : PyData → Prop} {a b : PyData} (h : P (if c then a else b)) : (c → P a) ∧ (¬ c → P b) := ⟨fun z => by rwa [if_pos z] at h, fun z => by rwa [if_neg z] at h⟩
theorem rbsUp {ds : List PyData} {n k m j : Nat} (h : RBs ds n k) (a : n ≤ m) (b : k ≤ j) : RBs ds m j := ⟨h.ok, Nat.le_trans h.bulk a, Nat.le_trans h.depth b⟩
end MM
set_option Elab.async false
set_option linter.all false
set_option maxRecDepth 100000
set_option maxHeartbeats 1000000
/-! X14: texts told by lists; words of two letters; while True -/
namespace MM
open PySem PySem.Spec L2 PyProof.Rows
theorem while_true {b : RS} {e : En} {M' : ME} {N : Prop} (h : b e M') : tB' (rC (.bool true)) e fun t => if t = true then b e M' else N := by
  unfold tB' rC
  dsimp only
  rw [if_pos rfl]
  exact h
/-- a text by its signs -/
def tS (l : List Nat) : Str := ⟨l.toArray⟩
theorem tS_inj {l m : List Nat} : tS l = tS m ↔ l = m := by
  unfold tS
  constructor
  · intro h
    have := congrArg (fun x : Str => x.cps.toList) h
    simpa using this
  · rintro rfl; rfl
theorem tS_len (l : List Nat) : (tS l).length = l.length := by
  show l.toArray.size = l.length
  simp
theorem tS_app (l m : List Nat) : tS l ++ tS m = tS (l ++ m) := by
  show (⟨l.toArray ++ m.toArray⟩ : Str) = ⟨(l ++ m).toArray⟩
  simp
theorem tS_chars (l : List Nat) : charsD (tS l) = l.map fun c => PyData.str (tS [c]) := by
  unfold charsD tS
  simp
theorem tS_rev (l : List Nat) : revS (tS l) = tS l.reverse := by
  unfold revS tS
  simp
theorem tS_rep (l : List Nat) (k : Int) : repS (tS l) k = tS (List.replicate k.toNat l).flatten := by
  unfold repS tS
  simp
theorem tS_take {l : List Nat} {k : Nat} (h : k ≤ l.length) : cutS (tS l) none (some (k : Int)) = tS (l.take k) := by
  unfold cutS
  rw [tS_len]
  unfold tS
  have e1 : HT.sIx l.length 0 none = 0 := rfl
  have e2 : HT.sIx l.length l.length (some (k : Int)) = k := by
    simp only [HT.sIx]
    rw [if_neg (by omega)]
    omega
  rw [e1, e2]
  simp
theorem tS_at {l : List Nat} {k : Nat} (h : k < l.length) : atI (tS l).cps.toList (k : Int) = some l[k] := by
  unfold tS
  refine atI_nat ?_
  simp [List.getElem?_eq_getElem h]
theorem tS_join : ∀ ls : List (List Nat), Txt.join "" (ls.map tS) = tS ls.flatten := by
  intro ls
  rw [show Txt.join "" (ls.map tS) = Str.join "" (ls.map tS) from PySem.StrLaws.glued_eq_join _ _]
  induction ls with
  | nil => rfl
  | cons l ls ih =>
    match ls, ih with
    | [], _ =>
      show tS l = tS (l ++ [])
      rw [List.append_nil]
    | m :: ls, ih =>
      show tS l ++ ("" : Str) ++ Str.join "" (tS m :: ls.map tS) = _
      rw [show tS m :: ls.map tS = (m :: ls).map tS from rfl, ih]
      have : (("" : String) : Str) = tS [] := by decide
      rw [this, tS_app, tS_app, List.append_nil]; rfl
/-- L and R: R is true -/
def chN (b : Bool) : Nat := if b = true then 82 else 76
def wS (w : List Bool) : Str := tS (w.map chN)
theorem chN_inj {a b : Bool} : chN a = chN b ↔ a = b := by cases a <;> cases b <;> decide
theorem wS_inj {w v : List Bool} : wS w = wS v ↔ w = v := by
  unfold wS
  rw [tS_inj]
  constructor
  · intro h
    induction w generalizing v with
    | nil => cases v with | nil => rfl | cons b v => simp at h
    | cons a w ih =>
      cases v with
      | nil => simp at h
      | cons b v =>
        rw [List.map_cons, List.map_cons] at h
        injection h with h1 h2
        rw [chN_inj.mp h1, ih h2]
  · rintro rfl; rfl
theorem wS_len (w : List Bool) : (wS w).length = w.length := by unfold wS; rw [tS_len, List.length_map]
theorem wS_app (w v : List Bool) : wS w ++ wS v = wS (w ++ v) := by unfold wS; rw [tS_app, List.map_append]
def chD (b : Bool) : PyData := .str (wS [b])
theorem wS_chars (w : List Bool) : charsD (wS w) = w.map chD := by
  unfold wS
  rw [tS_chars, List.map_map]; rfl
theorem wS_rev (w : List Bool) : revS (wS w) = wS w.reverse := by unfold wS; rw [tS_rev, List.map_reverse]
theorem wS_R : wS [true] = ("R" : Str) := by decide
theorem wS_L : wS [false] = ("L" : Str) := by decide
theorem wS_rep (b : Bool) (k : Int) : repS (wS [b]) k = wS (List.replicate k.toNat b) := by
  unfold wS
  rw [tS_rep]
  congr 1
  simp
theorem wS_take {w : List Bool} {k : Nat} (h : k ≤ w.length) : cutS (wS w) none (some (k : Int)) = wS (w.take k) := by
  unfold wS
  rw [tS_take (by rw [List.length_map]; exact h), List.map_take]
theorem wS_at {w : List Bool} {k : Nat} (h : k < w.length) : atI (wS w).cps.toList (k : Int) = some (chN w[k]) := by
  unfold wS
  rw [tS_at (by rw [List.length_map]; exact h), List.getElem_map]
theorem wS_join (ws : List (List Bool)) : Txt.join "" (ws.map wS) = wS ws.flatten := by
  have : ws.map wS = (ws.map fun w => w.map chN).map tS := by rw [List.map_map]; rfl
  rw [this, tS_join]
  unfold wS
  rw [List.map_flatten]
theorem wS_ok (w : List Bool) : PyData.strOk (wS w) = true := by
  unfold PyData.strOk wS tS
  simp
  exact ⟨fun _ => by decide, fun _ => by decide⟩
theorem RB.word (w : List Bool) {n : Nat} (h : w.length ≤ n) : RB (.str (wS w)) n 0 := RB.str (wS_ok w) (by
  have := wS_len w
  have e : (wS w).cps.size = (wS w).length := rfl
  omega)
end MM
set_option Elab.async false
set_option linter.all false
set_option maxRecDepth 100000
set_option maxHeartbeats 1000000
/-! X15: data with {} within; what a text of one begins with -/
namespace MM
open PySem PySem.Spec L2 PyProof.Rows
mutual
/-- as okB, empty dicts allowed -/
def okE : PyData → Bool
  | .none | .bool _ => true
  | .int i => decide (i.natAbs < 10 ^ 80)
  | .str x => PyData.strOk x
  | .list xs | .tuple xs => okEs xs
  | .dict kvs => kvs.isEmpty
def okEs : List PyData → Bool
  | [] => true
  | x :: xs => okE x && okEs xs
end
mutual
theorem okB_E : ∀ d : PyData, okB d = true → okE d = true
  | .none, _ => rfl
  | .bool _, _ => rfl
  | .int i, h => h
  | .str x, h => h
  | .list xs, h => okBs_E xs (by simpa [okB] using h)
  | .tuple xs, h => okBs_E xs (by simpa [okB] using h)
  | .dict _, h => by simp [okB] at h
theorem okBs_E : ∀ ds : List PyData, okBs ds = true → okEs ds = true
  | [], _ => rfl
  | d :: ds, h => by
    have h : okB d = true ∧ okBs ds = true := by simpa [okBs] using h
    simp [okEs, okB_E d h.1, okBs_E ds h.2]
end
mutual
theorem okE_lay : ∀ d : PyData, okE d = true → layE d = true ∧ d.showable = true ∧ d.leavesShort 82 = true
  | .none, _ => by simp [layE, PyData.showable, PyData.leavesShort]
  | .bool _, _ => by simp [layE, PyData.showable, PyData.leavesShort]
  | .int i, h => ⟨rfl, (okB_lay (.int i) h).2⟩
  | .str x, h => ⟨rfl, (okB_lay (.str x) h).2⟩
  | .list xs, h => by
    have := okEs_lay xs (by simpa [okE] using h)
    simpa [layE, PyData.showable, PyData.leavesShort] using this
  | .tuple xs, h => by
    have := okEs_lay xs (by simpa [okE] using h)
    simpa [layE, PyData.showable, PyData.leavesShort] using this
  | .dict kvs, h => by
    have e : kvs = [] := by simpa [okE] using h
    subst e
    simp [layE, PyData.showable, PyData.showableKv, PyData.leavesShort, PyData.leavesShortKv]
theorem okEs_lay : ∀ ds : List PyData, okEs ds = true → layEs ds = true ∧ PyData.showableAll ds = true ∧ PyData.leavesShortAll 82 ds = true
  | [], _ => by simp [layEs, PyData.showableAll, PyData.leavesShortAll]
  | d :: ds, h => by
    have h : okE d = true ∧ okEs ds = true := by simpa [okEs] using h
    have h1 := okE_lay d h.1
    have h2 := okEs_lay ds h.2
    simp [layEs, PyData.showableAll, PyData.leavesShortAll, h1, h2]
end
structure RE' (d : PyData) (n k : Nat) : Prop where
  ok : okE d = true
  bulk : d.bulk ≤ n
  depth : d.depth ≤ k
structure REs (ds : List PyData) (n k : Nat) : Prop where
  ok : okEs ds = true
  bulk : PyData.bulkAll ds ≤ n
  depth : PyData.depthAll ds ≤ k
theorem RB.e {d : PyData} {n k : Nat} (h : RB d n k) : RE' d n k := ⟨okB_E d h.ok, h.bulk, h.depth⟩
theorem RBs.e {ds : List PyData} {n k : Nat} (h : RBs ds n k) : REs ds n k := ⟨okBs_E ds h.ok, h.bulk, h.depth⟩
theorem RE'.repr {d : PyData} {n k : Nat} (h : RE' d n k) (hn : n ≤ 190000) (hk : k ≤ 60) : ReprE d := by
  obtain ⟨h1, h2, h3⟩ := okE_lay d h.ok
  refine ⟨h1, h2, ?_, Nat.le_trans h.depth hk⟩
  have a := PyData.shown_le_bulk 82 (by decide) d h3
  have b := h.bulk
  rw [sizeLine_eq]
  omega
theorem RE'.emp : RE' (.dict []) 0 1 := ⟨rfl, by simp [PyData.bulk, PyData.bulkKv], by simp [PyData.depth, PyData.depthKv]⟩
theorem RE'.mono {d : PyData} {n k m j : Nat} (h : RE' d n k) (a : n ≤ m) (b : k ≤ j) : RE' d m j := ⟨h.ok, Nat.le_trans h.bulk a, Nat.le_trans h.depth b⟩
theorem REs.mono {ds : List PyData} {n k m j : Nat} (h : REs ds n k) (a : n ≤ m) (b : k ≤ j) : REs ds m j := ⟨h.ok, Nat.le_trans h.bulk a, Nat.le_trans h.depth b⟩
theorem REs.nil : REs [] 0 0 := RBs.nil.e
theorem REs.cons {d : PyData} {ds : List PyData} {n m k j : Nat} (h : RE' d n k) (hs : REs ds m j) : REs (d :: ds) (n + 1 + m) (max k j) :=
  ⟨by simp [okEs, h.ok, hs.ok], by have := h.bulk; have := hs.bulk; simp only [PyData.bulkAll]; omega, by have := h.depth; have := hs.depth; simp only [PyData.depthAll]; omega⟩
theorem REs.list {ds : List PyData} {n k : Nat} (h : REs ds n k) : RE' (.list ds) n (k + 1) := ⟨by simpa [okE] using h.ok, by simpa [PyData.bulk] using h.bulk, by have := h.depth; simp only [PyData.depth]; omega⟩
theorem REs.tuple {ds : List PyData} {n k : Nat} (h : REs ds n k) : RE' (.tuple ds) n (k + 1) := ⟨by simpa [okE] using h.ok, by simpa [PyData.bulk] using h.bulk, by have := h.depth; simp only [PyData.depth]; omega⟩
theorem REs.all {n k : Nat} : ∀ {ds : List PyData}, (∀ d ∈ ds, RE' d n k) → REs ds ((n + 1) * ds.length) k
  | [], _ => ⟨by simp [okEs], by simp [PyData.bulkAll], by simp [PyData.depthAll]⟩
  | d :: ds, h => by
    have a := h d List.mem_cons_self
    have b := REs.all (ds := ds) fun e he => h e (List.mem_cons_of_mem _ he)
    refine ⟨by simp [okEs, a.ok, b.ok], ?_, ?_⟩
    · have := a.bulk; have := b.bulk
      have e : (n + 1) * (d :: ds).length = (n + 1) * ds.length + (n + 1) := by rw [List.length_cons, Nat.mul_add, Nat.mul_one]
      simp only [PyData.bulkAll]; omega
    · have := a.depth; have := b.depth
      simp only [PyData.depthAll]; omega
/-- at most m parts, each of n -/
theorem REs.few {ds : List PyData} {n k m b : Nat} (h : ∀ d ∈ ds, RE' d n k) (hm : ds.length ≤ m) (hb : (n + 1) * m ≤ b) : REs ds b k :=
  (REs.all h).mono (Nat.le_trans (Nat.mul_le_mul_left _ hm) hb) (Nat.le_refl _)
theorem layE_tup {ds : List PyData} (h : layE (.tuple ds) = true) : ∀ u ∈ ds, layE u = true := by
  have h : layEs ds = true := h
  induction ds with
  | nil => intro u hu; cases hu
  | cons x l ih =>
    intro u hu
    obtain ⟨h1, h2⟩ := layEs_cons h
    rcases List.mem_cons.mp hu with rfl | h3
    · exact h1
    · exact ih h2 h2 u h3
/-! ### heads of texts -/
theorem textFrom_head {c : Nat} : ∀ (ts : List Str) (k : Nat) (acc : Str), acc.cps.toList.head? = some c → (textFrom k acc ts).cps.toList.head? = some c
  | [], _, _, h => h
  | t :: ts, k, acc, h => by
    refine textFrom_head ts (k + 1) _ ?_
    rw [cps_toList_append, cps_toList_append]
    match acc.cps.toList, h with
    | x :: l, h => exact h
theorem head_app {l m : List Nat} {c : Nat} (h : l.head? = some c) : (l ++ m).head? = some c := by
  match l, h with
  | x :: l, h => exact h
theorem shown_39 {x : PyData} (h : x.shown.cps.toList.head? = some 39) : ∃ z, x = .str z := by
  cases x with
  | str z => exact ⟨z, rfl⟩
  | none => rw [PyData.shown_none] at h; exact absurd h (by decide)
  | bool b => cases b <;> (rw [PyData.shown_bool] at h; exact absurd h (by decide))
  | int i =>
    have hm : 39 ∈ (PyData.shown (.int i)).cps.toList := List.mem_of_mem_head? h
    exact absurd hm (shown_int_free' ⟨by decide, by decide⟩ i)
  | list xs =>
    have e : (PyData.shown (.list xs)) = textFrom 0 "[" (PyData.shownAll xs) ++ "]" := by simp only [PyData.shown, listText]
    rw [e, cps_toList_append, head_app (textFrom_head (c := 91) _ 0 "[" (by decide))] at h
    exact absurd h (by decide)
  | tuple xs =>
    rw [PyData.shown_tuple] at h
    rw [cps_toList_append, cps_toList_append, head_app (head_app (c := 40) (by decide))] at h
    exact absurd h (by decide)
  | dict ds =>
    have e : (PyData.shown (.dict ds)) = dictText (PyData.shownKv ds) := by simp only [PyData.shown]
    rw [e] at h
    unfold dictText at h
    rw [cps_toList_append, cps_toList_append, head_app (head_app (c := 123) (by decide))] at h
    exact absurd h (by decide)
/-- repr(x) is the text of a str in single signs -/
theorem str_of_shown {x : PyData} {s : Str} (h : x.shown = s) (hs : s.cps.toList.head? = some 39) : ∃ z, x = .str z := shown_39 (h ▸ hs)
/-- repr((x,)) begins so: x is a str -/
theorem str_of_tup1 {x : PyData} {s : Str} (h : (PyData.tuple [x]).shown = s) (hs : s.cps.toList[1]? = some 39) : ∃ z, x = .str z := by
  apply shown_39
  rw [← h, PyData.shown_tuple] at hs
  simp only [PyData.shownAll, join_one, List.length_singleton] at hs
  rw [cps_toList_append, cps_toList_append] at hs
  generalize x.shown.cps.toList = l at hs ⊢
  cases l with
  | nil =>
    rw [List.append_nil, if_pos (by decide)] at hs
    exact absurd hs (by decide)
  | cons c l =>
    have e : ("(" : Str).cps.toList = [40] := by decide
    rw [e] at hs
    exact hs
end MM
set_option Elab.async false
set_option linter.all false
set_option maxRecDepth 100000
set_option maxHeartbeats 1000000
/-! X16: values of papers: at most n parts, k deep, ints to B, texts of a few -/
namespace MM
open PySem PySem.Spec L2
mutual
def gB (ws : List Str) (B : Nat) : PyData → Bool
  | .int i => decide (i.natAbs ≤ B)
  | .str s => decide (s ∈ ws)
  | .list xs | .tuple xs => decide (xs.length ≤ 1000) && gBs ws B xs
  | .dict kvs => kvs.isEmpty
  | _ => true
def gBs (ws : List Str) (B : Nat) : List PyData → Bool
  | [] => true
  | x :: xs => gB ws B x && gBs ws B xs
end
structure Vk (ws : List Str) (B n k : Nat) (d : PyData) : Prop where
  r : RE' d n k
  g : gB ws B d = true
section
variable {ws : List Str} {B : Nat}
theorem gBs_mem : ∀ {ds : List PyData}, gBs ws B ds = true → ∀ u ∈ ds, gB ws B u = true
  | [], _, u, hu => by cases hu
  | x :: l, h, u, hu => by
    have h2 : gB ws B x = true ∧ gBs ws B l = true := by simpa [gBs] using h
    rcases List.mem_cons.mp hu with rfl | h3
    · exact h2.1
    · exact gBs_mem h2.2 u h3
theorem gBs_all : ∀ {ds : List PyData}, (∀ u ∈ ds, gB ws B u = true) → gBs ws B ds = true
  | [], _ => rfl
  | x :: l, h => by
    show (gB ws B x && gBs ws B l) = true
    rw [h x (by simp), gBs_all fun u hu => h u (List.mem_cons_of_mem _ hu)]; rfl
theorem gB_tup {ds : List PyData} (h : gB ws B (.tuple ds) = true) : ds.length ≤ 1000 ∧ ∀ u ∈ ds, gB ws B u = true := by
  have h2 : ds.length ≤ 1000 ∧ gBs ws B ds = true := by simpa [gB] using h
  exact ⟨h2.1, gBs_mem h2.2⟩
theorem gB_int {i : Int} (h : gB ws B (.int i) = true) : i.natAbs ≤ B := by simpa [gB] using h
theorem gB_str {s : Str} (h : gB ws B (.str s) = true) : s ∈ ws := by simpa [gB] using h
theorem gB_dict {ds : List (PyData × PyData)} (h : gB ws B (.dict ds) = true) : ds = [] := by simpa [gB] using h
theorem Vk.mono {n k m j : Nat} {d : PyData} (h : Vk ws B n k d) (a : n ≤ m) (b : k ≤ j) : Vk ws B m j d := ⟨h.r.mono a b, h.g⟩
theorem Vk.tup {n k m b : Nat} {ds : List PyData} (h : ∀ u ∈ ds, Vk ws B n k u) (hl : ds.length ≤ m) (hm : m ≤ 1000) (hb : (n + 1) * m ≤ b) : Vk ws B b (k + 1) (.tuple ds) :=
  ⟨(REs.few (fun u hu => (h u hu).r) hl hb).tuple, by
    show (decide (ds.length ≤ 1000) && gBs ws B ds) = true
    rw [decide_eq_true (Nat.le_trans hl hm), gBs_all fun u hu => (h u hu).g]; rfl⟩
theorem Vk.lst {n k m b : Nat} {ds : List PyData} (h : ∀ u ∈ ds, Vk ws B n k u) (hl : ds.length ≤ m) (hm : m ≤ 1000) (hb : (n + 1) * m ≤ b) : Vk ws B b (k + 1) (.list ds) :=
  ⟨(REs.few (fun u hu => (h u hu).r) hl hb).list, by
    show (decide (ds.length ≤ 1000) && gBs ws B ds) = true
    rw [decide_eq_true (Nat.le_trans hl hm), gBs_all fun u hu => (h u hu).g]; rfl⟩
theorem Vk.int {i : Int} (h : i.natAbs ≤ B) (hB : B < 10 ^ 60) : Vk ws B 0 0 (.int i) := ⟨(RB.int (Nat.lt_of_le_of_lt h hB)).e, decide_eq_true h⟩
theorem Vk.non : Vk ws B 0 0 .none := ⟨RB.non.e, rfl⟩
theorem Vk.bool {b : Bool} : Vk ws B 0 0 (.bool b) := ⟨RB.bool.e, rfl⟩
theorem Vk.str {x : Str} {n : Nat} (h : PyData.strOk x = true) (hl : x.cps.size ≤ n) (hw : x ∈ ws) : Vk ws B n 0 (.str x) := ⟨(RB.str h hl).e, decide_eq_true hw⟩
theorem Vk.emp : Vk ws B 0 1 (.dict []) := ⟨RE'.emp, rfl⟩
theorem Vk.repr {n k : Nat} {d : PyData} (h : Vk ws B n k d) (hn : n ≤ 190000) (hk : k ≤ 60) : ReprE d := h.r.repr hn hk
theorem Vk.mem {n k : Nat} {ds : List PyData} (h : Vk ws B n (k + 1) (.tuple ds)) : ∀ u ∈ ds, Vk ws B n k u := by
  have hg := (gB_tup h.g).2
  have h1 : okEs ds = true := by simpa [okE] using h.r.ok
  have h2 : PyData.bulkAll ds ≤ n := by simpa [PyData.bulk] using h.r.bulk
  have h3 : PyData.depthAll ds ≤ k := by
    have := h.r.depth
    simp only [PyData.depth] at this
    omega
  clear h
  induction ds with
  | nil => intro u hu; cases hu
  | cons x l ih =>
    intro u hu
    have q1 : okE x = true ∧ okEs l = true := by simpa [okEs] using h1
    simp only [PyData.bulkAll] at h2
    simp only [PyData.depthAll] at h3
    rcases List.mem_cons.mp hu with rfl | hu
    · exact ⟨⟨q1.1, by omega, by omega⟩, hg u (by simp)⟩
    · exact ih (fun v hv => hg v (List.mem_cons_of_mem _ hv)) q1.2 (by omega) (by omega) u hu
theorem Vk.lay {n k : Nat} {d : PyData} (h : Vk ws B n k d) : layE d = true := (okE_lay d h.r.ok).1
theorem Vk.one {n k : Nat} {x : PyData} {t : List PyData} (h : Vk ws B n k (.tuple (x :: t))) : Vk ws B n k (.tuple [x]) := by
  have hg := gB_tup h.g
  have h1 : okE x = true ∧ okEs t = true := by simpa [okE, okEs] using h.r.ok
  have h2 := h.r.bulk
  have h3 := h.r.depth
  refine ⟨⟨by simp [okE, okEs, h1.1], ?_, ?_⟩, ?_⟩
  · simp only [PyData.bulk, PyData.bulkAll] at h2 ⊢; omega
  · simp only [PyData.depth, PyData.depthAll] at h3 ⊢; omega
  · show (decide (([x] : List PyData).length ≤ 1000) && (gB ws B x && true)) = true
    rw [hg.2 x (by simp)]; rfl
/-- no dicts in a datum of ints, texts, .. : it may be compared -/
theorem lay_of_E {d : PyData} (h : layE d = true) (n : d.hasDict = false) : d.canLay0 = true → True := fun _ => trivial
end
/-- every member is of P -/
def All (P : PyData → Prop) (vs : List PyData) : Prop := ∀ v ∈ vs, P v
theorem All.nil {P : PyData → Prop} : All P [] := fun v hv => by cases hv
theorem All.cons {P : PyData → Prop} {v : PyData} {vs : List PyData} (h : P v) (t : All P vs) : All P (v :: vs) := fun u hu => by
  rcases List.mem_cons.mp hu with rfl | hu
  · exact h
  · exact t u hu
theorem All.app {P : PyData → Prop} {vs us : List PyData} (h : All P vs) (t : All P us) : All P (vs ++ us) := fun u hu => by
  rcases List.mem_append.mp hu with hu | hu
  · exact h u hu
  · exact t u hu
theorem All.take {P : PyData → Prop} {vs : List PyData} (h : All P vs) (n : Nat) : All P (vs.take n) := fun u hu => h u (List.mem_of_mem_take hu)
theorem All.drop {P : PyData → Prop} {vs : List PyData} (h : All P vs) (n : Nat) : All P (vs.drop n) := fun u hu => h u (List.mem_of_mem_drop hu)
theorem All.rev {P : PyData → Prop} {vs : List PyData} (h : All P vs) : All P vs.reverse := fun u hu => h u (List.mem_reverse.mp hu)
end MM
set_option Elab.async false
set_option linter.all false
set_option maxRecDepth 100000
set_option maxHeartbeats 1000000
/-! plain mathematics for k56 to k59: Dedekind's sums -/
namespace LW
open MM
theorem tri2 : ∀ n : Nat, 2 * (sumN n fun i => (i : Int)) = n * (n - 1)
  | 0 => rfl
  | n + 1 => by
    have := tri2 n
    rw [sumN_succ]
    grind
theorem sqs6 : ∀ n : Nat, 6 * (sumN n fun i => (i : Int) * (i : Int)) = n * (n - 1) * (2 * n - 1)
  | 0 => rfl
  | n + 1 => by
    have := sqs6 n
    rw [sumN_succ]
    grind
/-- both ways of counting -/
theorem two_ways {n e : Nat} {F G : Nat → Nat} (hF : ∀ i, i < n → F i ≤ e) (hG : ∀ j, j < e → G j ≤ n) (h : ∀ i j, i < n → j < e → (j < F i ↔ G j ≤ i)) (u w : Nat → Int) :
    sumN n (fun i => w i * sumN (F i) u) = sumN e fun j => u j * (sumN n w - sumN (G j) w) := by
  have a1 : ∀ i, i < n → w i * sumN (F i) u = sumN e fun j => w i * if j < F i then u j else 0 := fun i hi => by
    rw [sumN_mul, sumN_below _ _ (hF i hi)]
  rw [sumN_congr n a1, sumN_swap]
  refine sumN_congr e fun j hj => ?_
  rw [← sumN_from _ _ (hG j hj), ← sumN_mul]
  refine sumN_congr n fun i hi => ?_
  have := h i j hi hj
  by_cases q : j < F i
  · rw [if_pos q, if_pos (this.mp q), Int.mul_comm]
  · rw [if_neg q, if_neg fun z => q (this.mpr z)]; simp
theorem bez : ∀ (a b : Nat), ∃ u v : Int, (a : Int) * u + b * v = Nat.gcd a b := by
  intro a b
  induction a, b using Nat.gcd.induction with
  | H0 n => exact ⟨0, 1, by simp⟩
  | H1 m n hm ih =>
    obtain ⟨u, v, h⟩ := ih
    have e := Nat.div_add_mod n m
    refine ⟨v - (n / m : Nat) * u, u, ?_⟩
    rw [Nat.gcd_rec, ← h]
    have e2 : (n : Int) = m * (n / m : Nat) + (n % m : Nat) := by
      rw [← Int.natCast_mul, ← Int.natCast_add, e]
    grind
theorem perm_sum_eq {l m : List Int} (h : l.Perm m) : l.sum = m.sum := by
  induction h with
  | nil => rfl
  | cons x _ ih => rw [List.sum_cons, List.sum_cons, ih]
  | swap x y l => simp only [List.sum_cons]; omega
  | trans _ _ h1 h2 => rw [h1, h2]
theorem res_inj {h k i j : Nat} (hg : Nat.Coprime h k) (hi : i < k) (hj : j < k) (e : h * i % k = h * j % k) : i = j := by
  obtain ⟨u, v, huv⟩ := bez h k
  rw [hg] at huv
  have e1 : ((h * i : Nat) : Int) % k = ((h * j : Nat) : Int) % k := by rw [← Int.natCast_emod, ← Int.natCast_emod, e]
  rw [Int.emod_eq_emod_iff_emod_sub_eq_zero, ← Int.dvd_iff_emod_eq_zero] at e1
  obtain ⟨c, hc⟩ := e1
  rw [Int.natCast_mul, Int.natCast_mul] at hc
  have d : (k : Int) ∣ (i : Int) - j := ⟨u * c + v * (i - j), by
    have : ((i : Int) - j) = (h * u + k * v) * (i - j) := by rw [huv]; simp
    grind⟩
  rcases Int.lt_trichotomy (i : Int) j with q | q | q
  · have := Int.le_of_dvd (by omega) (Int.dvd_neg.mpr d : (k : Int) ∣ -((i : Int) - j))
    omega
  · omega
  · have := Int.le_of_dvd (by omega) d
    omega
theorem res_sur {h k x : Nat} (hg : Nat.Coprime h k) (hx : x < k) : ∃ i, i < k ∧ h * i % k = x := by
  obtain ⟨u, v, huv⟩ := bez h k
  rw [hg] at huv
  have m0 : 0 ≤ (u * x) % (k : Int) := Int.emod_nonneg _ (by omega)
  have m1 : (u * x) % (k : Int) < k := Int.emod_lt_of_pos _ (by omega)
  obtain ⟨i, hi⟩ := Int.eq_ofNat_of_zero_le m0
  refine ⟨i, by omega, ?_⟩
  have e : ((h * i : Nat) : Int) % k = ((x : Nat) : Int) % k := by
    rw [Int.emod_eq_emod_iff_emod_sub_eq_zero, ← Int.dvd_iff_emod_eq_zero]
    have g := Int.mul_ediv_add_emod (u * x) k
    rw [hi] at g
    refine ⟨-(v * x) - h * (u * x / k), ?_⟩
    have : (x : Int) = (h * u + k * v) * x := by rw [huv]; simp
    rw [Int.natCast_mul]
    grind
  rw [← Int.natCast_emod, ← Int.natCast_emod] at e
  have := Int.ofNat.inj e
  rw [this, Nat.mod_eq_of_lt hx]
theorem perm_sum {h k : Nat} (hg : Nat.Coprime h k) (g : Nat → Int) : sumN k (fun i => g (h * i % k)) = sumN k g := by
  rcases Nat.eq_zero_or_pos k with hk | hk
  · subst hk; rfl
  rw [← sum_range, ← sum_range]
  have p : ((List.range k).map fun i => h * i % k).Perm (List.range k) := by
    refine (List.perm_ext_iff_of_nodup ?_ List.nodup_range).mpr fun x => ?_
    · unfold List.Nodup
      rw [List.pairwise_map]
      refine List.Pairwise.imp_of_mem (fun {a b} ha hb hab => fun e => hab ?_) List.nodup_range
      exact res_inj hg (List.mem_range.mp ha) (List.mem_range.mp hb) e
    · rw [List.mem_map, List.mem_range]
      constructor
      · rintro ⟨i, _, rfl⟩
        exact Nat.mod_lt _ hk
      · intro hx
        obtain ⟨i, hi, e⟩ := res_sur hg hx
        exact ⟨i, List.mem_range.mpr hi, e⟩
  have := perm_sum_eq (p.map g)
  rw [List.map_map] at this
  exact this
/-! ### sums of floors -/
def flS (h k : Nat) : Int := sumN k fun i => ((h * i / k : Nat) : Int)
def flT (h k : Nat) : Int := sumN k fun i => (i : Int) * ((h * i / k : Nat) : Int)
def flQ (h k : Nat) : Int := sumN k fun i => ((h * i / k : Nat) : Int) * ((h * i / k : Nat) : Int)
theorem res_eq (h k i : Nat) : ((h * i % k : Nat) : Int) = h * i - k * (h * i / k : Nat) := by
  have := Nat.div_add_mod (h * i) k
  have e : (((k * (h * i / k) + h * i % k : Nat)) : Int) = ((h * i : Nat) : Int) := by rw [this]
  rw [Int.natCast_add, Int.natCast_mul, Int.natCast_mul] at e
  omega
theorem flS_eq {h k : Nat} (hk : 0 < k) (hg : Nat.Coprime h k) : 2 * flS h k = (h - 1) * (k - 1) := by
  have p := perm_sum hg (fun i => (i : Int))
  simp only [res_eq] at p
  rw [sumN_sub, sumN_mul, sumN_mul] at p
  have t := tri2 k
  have e : (k : Int) * (2 * flS h k) = k * ((h - 1) * (k - 1)) := by
    unfold flS
    grind
  exact Int.eq_of_mul_eq_mul_left (by omega) e
theorem flQ_eq {h k : Nat} (hg : Nat.Coprime h k) : (k : Int) * k * flQ h k = 2 * h * k * flT h k - (h * h - 1) * sumN k fun i => (i : Int) * (i : Int) := by
  have p := perm_sum hg (fun i => (i : Int) * (i : Int))
  simp only [res_eq] at p
  have e : ∀ i, i < k → ((h : Int) * i - k * (h * i / k : Nat)) * (h * i - k * (h * i / k : Nat)) = (h * h * (i * i) - 2 * h * k * (i * (h * i / k : Nat))) + k * k * ((h * i / k : Nat) * (h * i / k : Nat)) := fun i _ => by grind
  rw [sumN_congr k e, sumN_add, sumN_sub, sumN_mul, sumN_mul, sumN_mul] at p
  unfold flQ flT
  grind
theorem flT_eq {h k : Nat} (hh : 0 < h) (hk : 0 < k) (hg : Nat.Coprime h k) : 2 * flT h k = (h - 1) * k * (k - 1) - flQ k h - flS k h := by
  have ndvd : ∀ j, 0 < j → j < h → ¬ h ∣ k * j := fun j j0 j1 d => by
    have := Nat.le_of_dvd j0 (Nat.Coprime.dvd_of_dvd_mul_left hg d)
    omega
  have hFe : ∀ i, i < k → h * i / k ≤ h - 1 := fun i hi => by
    have : h * i / k < h := Nat.div_lt_of_lt_mul (by rw [Nat.mul_comm k h]; exact Nat.mul_lt_mul_of_pos_left hi hh)
    omega
  have hGn : ∀ j, j < h - 1 → k * (j + 1) / h + 1 ≤ k := fun j hj => by
    have : k * (j + 1) / h < k := Nat.div_lt_of_lt_mul (by rw [Nat.mul_comm h k]; exact Nat.mul_lt_mul_of_pos_left (by omega) hk)
    omega
  have key : ∀ i j, i < k → j < h - 1 → (j < h * i / k ↔ k * (j + 1) / h + 1 ≤ i) := fun i j hi hj => by
    have a1 : j < h * i / k ↔ (j + 1) * k ≤ h * i := Nat.le_div_iff_mul_le hk
    have a2 : k * (j + 1) / h < i ↔ k * (j + 1) < i * h := Nat.div_lt_iff_lt_mul hh
    have a3 : k * (j + 1) ≠ h * i := fun e => ndvd (j + 1) (by omega) (by omega) ⟨i, e⟩
    rw [a1]
    rw [Nat.mul_comm (j + 1) k]
    rw [Nat.mul_comm i h] at a2
    omega
  have L := two_ways hFe hGn key (fun _ => 1) (fun i => (i : Int))
  simp only [sumN_const, Int.one_mul, Int.mul_one] at L
  have tk := tri2 k
  have e2 : ∀ j, j < h - 1 → 2 * ((sumN k fun i => (i : Int)) - sumN (k * (j + 1) / h + 1) fun i => (i : Int)) = (k * (k - 1) - ((k * (j + 1) / h : Nat) : Int) * ((k * (j + 1) / h : Nat) : Int)) - ((k * (j + 1) / h : Nat) : Int) := fun j _ => by
    have t2 := tri2 (k * (j + 1) / h + 1)
    rw [Int.natCast_add] at t2
    grind
  unfold flT
  rw [L, ← sumN_mul, sumN_congr _ e2, sumN_sub, sumN_sub, sumN_const]
  obtain ⟨m, rfl⟩ : ∃ m, h = m + 1 := ⟨h - 1, by omega⟩
  unfold flQ flS
  rw [sumN_shift, sumN_shift (f := fun i => ((k * i / (m + 1) : Nat) : Int))]
  simp only [Nat.mul_zero, Nat.zero_div, Nat.add_sub_cancel]
  rw [Int.natCast_add]
  grind
/-- twelve k times the sum -/
def dN (h k : Nat) : Int := 2 * h * (k - 1) * (2 * k - 1) - 12 * flT h k - 3 * k * (k - 1)
/-- Dedekind's law -/
theorem recip {h k : Nat} (hh : 0 < h) (hk : 0 < k) (hg : Nat.Coprime h k) : h * dN h k + k * dN k h = h * h + k * k + 1 - 3 * h * k := by
  have t1 := flT_eq hh hk hg
  have t2 := flQ_eq hg.symm
  have t3 := flS_eq hh hg.symm
  have t4 := sqs6 h
  have e : (h : Int) * (h * dN h k + k * dN k h) = h * (h * h + k * k + 1 - 3 * h * k) := by
    unfold dN
    generalize flT h k = A at *
    generalize flT k h = B at *
    generalize flQ k h = C at *
    generalize flS k h = D at *
    generalize (sumN h fun i => (i : Int) * (i : Int)) = E at *
    generalize (h : Int) = x at *
    generalize (k : Int) = y at *
    have m1 : 6 * x * x * (2 * A) = 6 * x * x * ((x - 1) * y * (y - 1) - C - D) := by rw [t1]
    have m2 : 6 * (x * x * C) = 6 * (2 * y * x * B - (y * y - 1) * E) := by rw [t2]
    have m3 : 3 * x * x * (2 * D) = 3 * x * x * ((y - 1) * (x - 1)) := by rw [t3]
    have m4 : (y * y - 1) * (6 * E) = (y * y - 1) * (x * (x - 1) * (2 * x - 1)) := by rw [t4]
    clear t1 t2 t3 t4 hh hk hg
    have f1 : 6 * x * x * (2 * A) = 12 * (x * x * A) := by grind
    have f2 : x * (x * (2 * x * (y - 1) * (2 * y - 1) - 12 * A - 3 * y * (y - 1)) + y * (2 * y * (x - 1) * (2 * x - 1) - 12 * B - 3 * x * (x - 1))) =
      x * x * (2 * x * (y - 1) * (2 * y - 1) - 3 * y * (y - 1)) - 12 * (x * x * A) + x * y * (2 * y * (x - 1) * (2 * x - 1) - 3 * x * (x - 1)) - 12 * (x * y * B) := by grind
    have f3 : 6 * x * x * ((x - 1) * y * (y - 1) - C - D) = 6 * x * x * ((x - 1) * y * (y - 1)) - 6 * (x * x * C) - 3 * x * x * (2 * D) := by grind
    have f4 : 6 * (2 * y * x * B - (y * y - 1) * E) = 12 * (x * y * B) - (y * y - 1) * (6 * E) := by grind
    rw [f2]
    have f5 : 12 * (x * x * A) = 6 * x * x * ((x - 1) * y * (y - 1)) - (12 * (x * y * B) - (y * y - 1) * (x * (x - 1) * (2 * x - 1))) - 3 * x * x * ((y - 1) * (x - 1)) := by
      rw [← f1, m1, f3, m2, m3, f4, m4]
    rw [f5]
    grind
  exact Int.eq_of_mul_eq_mul_left (by omega) e
/-- it goes by h over k alone -/
theorem flT_add (h k : Nat) (hk : 0 < k) : flT (h + k) k = flT h k + sumN k fun i => (i : Int) * (i : Int) := by
  unfold flT
  rw [← sumN_add]
  refine sumN_congr k fun i _ => ?_
  have : (h + k) * i / k = h * i / k + i := by
    rw [Nat.add_mul, Nat.add_mul_div_left _ _ hk]
  rw [this, Int.natCast_add, Int.mul_add]
theorem dN_add (h k : Nat) (hk : 0 < k) : dN (h + k) k = dN h k := by
  unfold dN
  rw [flT_add h k hk]
  have := sqs6 k
  rw [Int.natCast_add]
  grind
theorem dN_mod (h k : Nat) (hk : 0 < k) : dN (h % k) k = dN h k := by
  have key : ∀ t r : Nat, dN (r + k * t) k = dN r k := fun t r => by
    induction t with
    | zero => simp
    | succ t ih => rw [Nat.mul_succ, ← Nat.add_assoc, dN_add _ _ hk, ih]
  have := Nat.mod_add_div h k
  rw [← key (h / k) (h % k), this]
theorem dN_one (h : Nat) : dN h 1 = 0 := by
  unfold dN flT
  simp [sumN]
theorem gcd_mod (x k : Int) (hk : 0 < k) : Int.gcd k (x % k) = Int.gcd x k := by
  have g := Int.mul_ediv_add_emod x k
  refine Nat.dvd_antisymm ?_ ?_
  · refine Int.natCast_dvd_natCast.mp ?_
    refine Int.dvd_coe_gcd ?_ (Int.gcd_dvd_left _ _)
    have a := Int.gcd_dvd_left k (x % k)
    have b := Int.gcd_dvd_right k (x % k)
    have := Int.dvd_add (Int.dvd_mul_of_dvd_left (c := x / k) a) b
    rwa [g] at this
  · refine Int.natCast_dvd_natCast.mp ?_
    refine Int.dvd_coe_gcd (Int.gcd_dvd_right _ _) ?_
    have a := Int.gcd_dvd_right x k
    have b := Int.gcd_dvd_left x k
    have := Int.dvd_sub b (Int.dvd_mul_of_dvd_left (c := x / k) a)
    rwa [show x - k * (x / k) = x % k by omega] at this
theorem low_all {p q : Int} (hq : 0 < q) : 0 < (Int.gcd p q : Int) ∧ (Int.gcd p q : Int) ≤ q ∧ 0 < q / (Int.gcd p q : Int) ∧ Int.gcd (p / (Int.gcd p q : Int)) (q / (Int.gcd p q : Int)) = 1 ∧ p / (Int.gcd p q : Int) * q = p * (q / (Int.gcd p q : Int)) ∧ (p / (Int.gcd p q : Int)).natAbs ≤ p.natAbs ∧ q / (Int.gcd p q : Int) ≤ q := by
  have hg : 0 < Int.gcd p q := Int.gcd_pos_of_ne_zero_right p (by omega)
  have e1 := Int.mul_ediv_cancel' (Int.gcd_dvd_left p q)
  have e2 := Int.mul_ediv_cancel' (Int.gcd_dvd_right p q)
  have e3 : (Int.gcd p q : Int) ≤ q := Int.le_of_dvd hq (Int.gcd_dvd_right p q)
  have h1 := Int.gcd_ediv (Int.gcd_dvd_left p q) (Int.gcd_dvd_right p q)
  generalize Int.gcd p q = G at *
  have p1 : 0 < q / (G : Int) := Int.pos_of_mul_pos_right (by omega : 0 < (G : Int) * (q / (G : Int))) (by omega)
  refine ⟨by omega, e3, p1, by rw [h1]; simp; exact Nat.div_self hg, by grind, Int.natAbs_ediv_le_natAbs _ _, ?_⟩
  have := Int.mul_le_mul_of_nonneg_right (show (1 : Int) ≤ G by omega) (show 0 ≤ q / (G : Int) by omega)
  omega
/-- (p, q) is N / D in its lowest terms -/
structure Fr (N D p q : Int) : Prop where
  q0 : 0 < q
  g : Int.gcd p q = 1
  e : p * D = N * q
theorem Fr.bd {N D p q : Int} (h : Fr N D p q) (hD : 0 < D) : q ≤ D ∧ p.natAbs ≤ N.natAbs := by
  obtain ⟨h1, h2⟩ := low_of h.q0 hD h.g (by rw [← h.e, Int.mul_comm])
  obtain ⟨_, _, _, _, _, k1, k2⟩ := low_all (p := N) hD
  rw [h1] at k1
  rw [h2] at k2
  exact ⟨k2, k1⟩
theorem Fr.uniq {N D N' D' p q p' q' : Int} (h : Fr N D p q) (h' : Fr N' D' p' q') (hD : 0 < D) (hD' : 0 < D') (e : N * D' = N' * D) : p = p' ∧ q = q' := by
  have e1 : p * q' = p' * q := by
    have : (D * D') * (p * q') = (D * D') * (p' * q) := by
      have a := h.e
      have b := h'.e
      have c1 : (D * D') * (p * q') = (p * D) * (D' * q') := by grind
      have c2 : (D * D') * (p' * q) = (p' * D') * (D * q) := by grind
      rw [c1, c2, a, b]
      grind
    exact Int.eq_of_mul_eq_mul_left (by have := Int.mul_pos hD hD'; omega) this
  have h1 := low_of h'.q0 h.q0 h'.g (by rw [e1, Int.mul_comm])
  rw [h.g] at h1
  simpa using h1
/-- Euclid's pairs -/
inductive Eu : Int → Int → List (Int × Int) → Prop
  | nil {k : Int} : Eu 0 k [(0, k)]
  | cons {h k : Int} {L : List (Int × Int)} : 0 < h → Eu (k % h) h L → Eu h k ((h, k) :: L)
def dI (h k : Int) : Int := dN h.toNat k.toNat
theorem dI_mod {h k : Int} (hk : 0 < k) (hh : 0 ≤ h) : dI (h % k) k = dI h k := by
  unfold dI
  rw [← dN_mod h.toNat k.toNat (by omega)]
  congr 1
  obtain ⟨a, rfl⟩ := Int.eq_ofNat_of_zero_le hh
  obtain ⟨b, rfl⟩ := Int.eq_ofNat_of_zero_le (show 0 ≤ k by omega)
  rw [← Int.natCast_emod]; rfl
theorem recipI {h k : Int} (hh : 0 < h) (hk : 0 < k) (hg : Int.gcd h k = 1) : h * dI h k + k * dI k h = h * h + k * k + 1 - 3 * h * k := by
  obtain ⟨a, rfl⟩ := Int.eq_ofNat_of_zero_le (show 0 ≤ h by omega)
  obtain ⟨b, rfl⟩ := Int.eq_ofNat_of_zero_le (show 0 ≤ k by omega)
  exact recip (by omega) (by omega) hg
theorem dI_bd {h k : Int} (hh : 0 ≤ h) (hk : 0 < k) (hhk : h ≤ k) (h5 : k ≤ 100000) : (dI h k).natAbs ≤ 20000000000000000 := by
  obtain ⟨a, rfl⟩ := Int.eq_ofNat_of_zero_le hh
  obtain ⟨b, rfl⟩ := Int.eq_ofNat_of_zero_le (show 0 ≤ k by omega)
  unfold dI dN
  simp only [Int.toNat_natCast]
  have t1 : (flT a b).natAbs ≤ b * (100000 * 100000) := by
    refine sumN_bd b fun i hi => ?_
    rw [Int.natAbs_mul]
    refine Nat.mul_le_mul (by omega) ?_
    have : a * i / b < a + 1 := by
      refine Nat.div_lt_of_lt_mul ?_
      have h1 : a * i ≤ a * b := Nat.mul_le_mul (Nat.le_refl _) (by omega)
      have h2 : b * (a + 1) = a * b + b := by rw [Nat.mul_add, Nat.mul_comm]; simp
      omega
    rw [Int.natAbs_natCast]
    omega
  have t2 : b * (100000 * 100000) ≤ 100000 * (100000 * 100000) := Nat.mul_le_mul (by omega) (Nat.le_refl _)
  have t3 : (2 * (a : Int) * (b - 1) * (2 * b - 1)).natAbs ≤ 200000 * 100000 * 200000 := by
    rw [Int.natAbs_mul, Int.natAbs_mul]
    exact Nat.mul_le_mul (Nat.mul_le_mul (by omega) (by omega)) (by omega)
  have t4 : (3 * (b : Int) * (b - 1)).natAbs ≤ 300000 * 100000 := by
    rw [Int.natAbs_mul]
    exact Nat.mul_le_mul (by omega) (by omega)
  omega
theorem Eu_suf {h k U : Int} {A B : List (Int × Int)} {x : Int × Int} (e : Eu h k (A ++ x :: B)) (hk : 0 < k) (h0 : 0 ≤ h) (hg : Int.gcd h k = 1) (h5 : h ≤ k ∧ k ≤ U) : Eu x.1 x.2 (x :: B) ∧ 0 < x.2 ∧ 0 ≤ x.1 ∧ Int.gcd x.1 x.2 = 1 ∧ x.1 ≤ x.2 ∧ x.2 ≤ U := by
  generalize hL : A ++ x :: B = L at e
  induction e generalizing A with
  | nil =>
    match A, hL with
    | [], hL =>
      cases hL
      exact ⟨.nil, hk, h0, hg, h5⟩
    | y :: A, hL => simp at hL
  | @cons h k L hh e ih =>
    match A, hL with
    | [], hL =>
      cases hL
      exact ⟨.cons hh e, hk, h0, hg, h5⟩
    | y :: A, hL =>
      cases hL
      have m1 := Int.emod_nonneg k (b := h) (by omega)
      have m2 := Int.emod_lt_of_pos k hh
      exact ih hh m1 (by rw [Int.gcd_comm, gcd_step (by omega) hh, Int.gcd_comm]; exact hg) (by omega) rfl
theorem Eu_last {h k : Int} {L : List (Int × Int)} (e : Eu h k L) (hk : 0 < k) (h0 : 0 ≤ h) (hg : Int.gcd h k = 1) : ∃ A, L = A ++ [(0, 1)] ∧ A.length ≤ h.toNat := by
  induction e with
  | @nil k =>
    rw [Int.gcd_zero_left] at hg
    have : k = 1 := by omega
    subst this
    exact ⟨[], rfl, by simp⟩
  | @cons h k L hh e ih =>
    have m1 := Int.emod_nonneg k (b := h) (by omega)
    have m2 := Int.emod_lt_of_pos k hh
    obtain ⟨A, rfl, hA⟩ := ih hh m1 (by rw [Int.gcd_comm, gcd_step (by omega) hh, Int.gcd_comm]; exact hg)
    exact ⟨(h, k) :: A, rfl, by rw [List.length_cons]; omega⟩
theorem Eu_head {h k : Int} {L : List (Int × Int)} (e : Eu h k L) : ∃ B, L = (h, k) :: B := by
  cases e with
  | nil => exact ⟨_, rfl⟩
  | cons => exact ⟨_, rfl⟩
theorem Eu_tail {h k : Int} {x : Int × Int} {B : List (Int × Int)} (e : Eu h k (x :: B)) (hB : B ≠ []) : 0 < h ∧ Eu (k % h) h B := by
  cases e with
  | nil => exact absurd rfl hB
  | cons a b => exact ⟨a, b⟩
/-- one more step -/
theorem Fr_next {h k p q a b c d : Int} (hh : 0 < h) (hk : 0 < k) (hg : Int.gcd h k = 1) (h1 : Fr (dI (k % h) h) (12 * h) c d) (h2 : Fr (h * h + k * k + 1 - 3 * h * k) (12 * h * k) a b) (h3 : Fr (a * d - c * b) (b * d) p q) : Fr (dI h k) (12 * k) p q := by
  refine ⟨h3.q0, h3.g, ?_⟩
  rw [dI_mod hh (by omega)] at h1
  have r := recipI hh hk hg
  have e1 := h1.e
  have e2 := h2.e
  have e3 := h3.e
  rw [← r] at e2
  generalize dI h k = x at *
  generalize dI k h = y at *
  have hb := h2.q0
  have hd := h1.q0
  -- p b d = (a d - c b) q; c 12 h = y d; a 12 h k = (h x + k y) b
  have e4 : (h * (b * d)) * (p * (12 * k)) = (h * (b * d)) * (x * q) := by
    have c1 : (h * (b * d)) * (p * (12 * k)) = (12 * h * k) * (p * (b * d)) := by grind
    have c2 : (12 * h * k) * ((a * d - c * b) * q) = (a * (12 * h * k)) * d * q - (c * (12 * h)) * k * b * q := by grind
    rw [c1, e3, c2, e2, e1]
    grind
  exact Int.eq_of_mul_eq_mul_left (by have := Int.mul_pos hh (Int.mul_pos hb hd); omega) e4
end LW
set_option Elab.async false
set_option linter.all false
set_option maxRecDepth 100000
set_option maxHeartbeats 1000000
/-! plain mathematics for k56 -/
namespace LW
open MM
/-- of h of any sign -/
def dZ (h k : Int) : Int := dI (h % k) k
/-- the sum by its terms, the one of r = 0 among them -/
def dG (a k : Nat) : Int := sumN k fun r => (2 * (r : Int) - k) * (2 * ((a * r % k : Nat) : Int) - k)
theorem dG_eq {a k : Nat} (hk : 0 < k) (hg : Nat.Coprime a k) : 3 * dG a k = k * dN a k + 3 * k * k := by
  have e : ∀ r, r < k → (2 * (r : Int) - k) * (2 * ((a * r % k : Nat) : Int) - k) = (((4 * a) * (r * r) - (4 * k) * (r * (a * r / k : Nat))) - (2 * k * (1 + a)) * r) + ((2 * k * k) * (a * r / k : Nat) + k * k) := fun r _ => by
    rw [res_eq]; grind
  unfold dG
  rw [sumN_congr k e, sumN_add, sumN_add, sumN_sub, sumN_sub, sumN_mul, sumN_mul, sumN_mul, sumN_mul, sumN_const]
  have t1 := tri2 k
  have t2 := sqs6 k
  have t3 := flS_eq hk hg
  unfold flS at t3
  unfold dN flT
  generalize (sumN k fun i => (i : Int) * (i : Int)) = A at *
  generalize (sumN k fun i => (i : Int)) = B at *
  generalize (sumN k fun i => ((a * i / k : Nat) : Int)) = C at *
  generalize (sumN k fun i => (i : Int) * ((a * i / k : Nat) : Int)) = D at *
  grind
theorem dG_inv {a b k : Nat} (hk : 0 < k) (ha : Nat.Coprime a k) (hb : Nat.Coprime b k) (h : a * b % k = 1 % k) : dG a k = dG b k := by
  unfold dG
  rw [← perm_sum hb fun x => (2 * (x : Int) - k) * (2 * ((a * x % k : Nat) : Int) - k)]
  refine sumN_congr k fun i hi => ?_
  have e : a * (b * i % k) % k = i := by
    rw [Nat.mul_mod, Nat.mod_mod, ← Nat.mul_mod, ← Nat.mul_assoc, Nat.mul_mod, h, ← Nat.mul_mod, Nat.one_mul, Nat.mod_eq_of_lt hi]
  rw [e, Int.mul_comm]
theorem dN_inv {a b k : Nat} (hk : 0 < k) (ha : Nat.Coprime a k) (hb : Nat.Coprime b k) (h : a * b % k = 1 % k) : dN a k = dN b k := by
  have h1 := dG_eq hk ha
  have h2 := dG_eq hk hb
  rw [dG_inv hk ha hb h] at h1
  have : (k : Int) * dN a k = k * dN b k := by omega
  exact Int.eq_of_mul_eq_mul_left (by omega) this
theorem dN_neg {a k : Nat} (a0 : 0 < a) (hak : a < k) (hg : Nat.Coprime a k) : dN (k - a) k = -dN a k := by
  have hT : flT (k - a) k = ((sumN k fun i => (i : Int) * (i : Int)) - sumN k fun i => (i : Int)) - flT a k := by
    unfold flT
    rw [← sumN_sub, ← sumN_sub]
    refine sumN_congr k fun r hr => ?_
    by_cases r0 : r = 0
    · subst r0; simp
    · have e : (k - a) * r / k + a * r / k + 1 = r := by
        have h1 := Nat.div_add_mod (a * r) k
        have h2 : a * r % k ≠ 0 := fun z => by
          have d : k ∣ a * r := Nat.dvd_of_mod_eq_zero z
          have := Nat.le_of_dvd (by omega) (Nat.Coprime.dvd_of_dvd_mul_left hg.symm d)
          omega
        have h3 := Nat.mod_lt (a * r) (show 0 < k by omega)
        have h4 : (k - a) * r = k * r - a * r := Nat.sub_mul _ _ _
        have h5 : a * r ≤ k * r := Nat.mul_le_mul_right _ (by omega)
        have h6 : a * r / k < r := Nat.div_lt_of_lt_mul (Nat.mul_lt_mul_of_pos_right hak (by omega))
        have h7 : (k - a) * r / k = r - 1 - a * r / k := by
          refine Nat.div_eq_of_lt_le ?_ ?_
          · rw [h4]
            have : (r - 1 - a * r / k) * k = k * r - k - k * (a * r / k) := by
              rw [Nat.mul_comm, Nat.mul_sub, Nat.mul_sub, Nat.mul_one]
            omega
          · rw [h4]
            have : (r - 1 - a * r / k + 1) * k = k * r - k * (a * r / k) := by
              rw [show r - 1 - a * r / k + 1 = r - a * r / k by omega, Nat.mul_comm, Nat.mul_sub]
            omega
        omega
      have e2 : (((k - a) * r / k : Nat) : Int) = r - 1 - (a * r / k : Nat) := by omega
      rw [e2]; grind
  unfold dN
  rw [hT]
  have t1 := tri2 k
  have t2 := sqs6 k
  have e : ((k - a : Nat) : Int) = k - a := by omega
  rw [e]
  generalize (sumN k fun i => (i : Int) * (i : Int)) = A at *
  generalize (sumN k fun i => (i : Int)) = B at *
  grind
theorem dN_even (a k : Nat) : dN a k % 2 = 0 := by
  unfold dN
  have t1 := tri2 k
  have : 3 * (k : Int) * (k - 1) = 2 * (3 * sumN k fun i => (i : Int)) := by grind
  rw [this]
  generalize (sumN k fun i => (i : Int)) = B
  have : 2 * (a : Int) * (k - 1) * (2 * k - 1) = 2 * (a * (k - 1) * (2 * k - 1)) := by grind
  rw [this]
  omega
theorem dN_1 (k : Nat) : dN 1 k = (k - 1) * (k - 2) := by
  have : flT 1 k = 0 := by
    unfold flT
    refine sumN_zero k fun i hi => ?_
    rw [Nat.one_mul, Nat.div_eq_of_lt hi]; simp
  unfold dN
  rw [this]
  grind
/-! of whole numbers of either sign -/
theorem dZ_nat {h k : Int} (hk : 0 < k) : ∃ a K : Nat, k = K ∧ h % k = a ∧ a < K ∧ dZ h k = dN a K := by
  have m1 := Int.emod_nonneg h (b := k) (by omega)
  have m2 := Int.emod_lt_of_pos h hk
  obtain ⟨a, ha⟩ := Int.eq_ofNat_of_zero_le m1
  obtain ⟨K, rfl⟩ := Int.eq_ofNat_of_zero_le (show 0 ≤ k by omega)
  exact ⟨a, K, rfl, ha, by omega, by unfold dZ dI; rw [ha]; rfl⟩
theorem dZ_neg {h k : Int} (hk : 0 < k) (hg : Int.gcd (h % k) k = 1) : dZ (0 - h) k = -dZ h k := by
  obtain ⟨a, K, rfl, e1, l1, d1⟩ := dZ_nat (h := h) hk
  obtain ⟨b, K', e, e2, l2, d2⟩ := dZ_nat (h := 0 - h) hk
  have : K' = K := by omega
  subst this
  rw [e1] at hg
  rw [d1, d2]
  have g1 := Int.mul_ediv_add_emod h K'
  have g2 := Int.mul_ediv_add_emod (0 - h) K'
  rw [e1] at g1
  rw [e2] at g2
  by_cases a0 : a = 0
  · subst a0
    have hk1 : K' = 1 := by
      have : Int.gcd ((0 : Nat) : Int) (K' : Int) = K' := by simp
      omega
    subst hk1
    rw [dN_one, dN_one]; rfl
  · have hb : b = K' - a := by
      have s : ((a : Int) + b) = K' * (-(h / K') - (0 - h) / K') := by grind
      have d : (K' : Int) ∣ (a : Int) + b := ⟨_, s⟩
      have d2 : K' ∣ a + b := by
        have := Int.natCast_dvd_natCast.mp (by rwa [← Int.natCast_add] at d : (K' : Int) ∣ ((a + b : Nat) : Int))
        exact this
      obtain ⟨c, hc⟩ := d2
      have : c = 1 := by
        rcases Nat.lt_trichotomy c 1 with q | q | q
        · have : c = 0 := by omega
          subst this; omega
        · exact q
        · have : K' * 2 ≤ K' * c := Nat.mul_le_mul_left _ q
          omega
      subst this
      omega
    rw [hb]
    exact dN_neg (by omega) l1 hg
theorem dZ_inv {h l k : Int} (hk : 0 < k) (hg : Int.gcd (h % k) k = 1) (hl : (h * l - 1) % k = 0) : dZ l k = dZ h k ∧ Int.gcd (l % k) k = 1 := by
  obtain ⟨a, K, rfl, e1, l1, d1⟩ := dZ_nat (h := h) hk
  obtain ⟨b, K', e, e2, l2, d2⟩ := dZ_nat (h := l) hk
  have : K' = K := by omega
  subst this
  rw [d1, d2]
  rw [e1] at hg
  rw [e2]
  have g1 := Int.mul_ediv_add_emod h K'
  have g2 := Int.mul_ediv_add_emod l K'
  rw [e1] at g1
  rw [e2] at g2
  have g3 := Int.mul_ediv_add_emod (h * l - 1) K'
  rw [hl] at g3
  have key : (K' : Int) ∣ ((a * b : Nat) : Int) - 1 := ⟨(h * l - 1) / K' - a * (l / K') - (h / K') * b - K' * (h / K') * (l / K'), by
    rw [Int.natCast_mul]
    have : h * l = (K' * (h / K') + a) * (K' * (l / K') + b) := by rw [g1, g2]
    grind⟩
  have hab : a * b % K' = 1 % K' := by
    have : ((a * b : Nat) : Int) % K' = ((1 : Nat) : Int) % K' := by
      rw [Int.emod_eq_emod_iff_emod_sub_eq_zero, ← Int.dvd_iff_emod_eq_zero]
      exact key
    rw [← Int.natCast_emod, ← Int.natCast_emod] at this
    exact Int.ofNat.inj this
  have hb : Nat.Coprime b K' := by
    have h1 : Nat.gcd b K' ∣ 1 := by
      have x1 : ((Nat.gcd b K' : Nat) : Int) ∣ ((a * b : Nat) : Int) := Int.natCast_dvd_natCast.mpr (Nat.dvd_trans (Nat.gcd_dvd_left b K') (Nat.dvd_mul_left b a))
      have x2 : ((Nat.gcd b K' : Nat) : Int) ∣ ((a * b : Nat) : Int) - 1 := Int.dvd_trans (Int.natCast_dvd_natCast.mpr (Nat.gcd_dvd_right b K')) key
      have x3 := Int.dvd_sub x1 x2
      rw [show ((a * b : Nat) : Int) - (((a * b : Nat) : Int) - 1) = ((1 : Nat) : Int) by omega] at x3
      exact Int.natCast_dvd_natCast.mp x3
    exact Nat.eq_one_of_dvd_one h1
  exact ⟨(dN_inv (by omega) hg hb hab).symm, hb⟩
theorem dZ_square {h k : Int} (hk : 0 < k) (hg : Int.gcd (h % k) k = 1) (hs : (h * h + 1) % k = 0) : dZ h k = 0 := by
  have h1 := (dZ_inv (l := 0 - h) hk hg (by
    have d := Int.dvd_of_emod_eq_zero hs
    have e : h * (0 - h) - 1 = -(h * h + 1) := by grind
    rw [e]
    exact Int.emod_eq_zero_of_dvd (Int.dvd_neg.mpr d))).1
  rw [dZ_neg hk hg] at h1
  omega
theorem dZ_even (h k : Int) : dZ h k % 2 = 0 := dN_even _ _
theorem dZ_add3 (h k : Int) : dZ (h + 3 * k) k = dZ h k := by
  unfold dZ
  rw [Int.add_mul_emod_self_right]
theorem dZ_one {k : Int} (hk : 0 < k) : dZ 1 k = (k - 1) * (k - 2) := by
  by_cases h1 : k = 1
  · subst h1; unfold dZ dI; rw [show (1 : Int).toNat = 1 from rfl, dN_one]; rfl
  · obtain ⟨K, rfl⟩ := Int.eq_ofNat_of_zero_le (show 0 ≤ k by omega)
    unfold dZ dI
    rw [Int.emod_eq_of_lt (by omega) (by omega)]
    exact dN_1 K
theorem dZ_recip {h k : Int} (hh : 0 < h) (hk : 0 < k) (hg : Int.gcd h k = 1) : h * dZ h k + k * dZ k h = h * h + k * k + 1 - 3 * h * k := by
  unfold dZ
  rw [dI_mod hk (by omega), dI_mod hh (by omega)]
  exact recipI hh hk hg
end LW
set_option Elab.async false
set_option linter.all false
set_option maxRecDepth 100000
set_option maxHeartbeats 1000000
/-! plain mathematics for k57: Dedekind's sums by chains -/
namespace LW
open MM
inductive Cp : Int → Int → List Int → Prop
  | nil {k : Int} : Cp 0 k []
  | cons {h k : Int} {L : List Int} : 0 < h → Cp (k % h) h L → Cp h k (k / h :: L)
def turns : List Int → Int
  | [] => 0
  | a :: L => a - turns L
theorem step_odd {h k a b e l T N : Int} (r : h * N + k * (b + (h - e - h) + (T - 0) * h) = h * h + k * k + 1 - 3 * h * k) (g : h * a + b = k) (he : h * l - 1 = k * e) : h * N = h * (h + (l - 0) + (a - T - 3) * k) := by
  have m : k * b = k * k - k * (h * a) := by rw [show b = k - h * a by omega, Int.mul_sub]
  have f : k * (b + (h - e - h) + (T - 0) * h) = k * b - k * e + k * (T * h) := by grind
  rw [f, m, ← he] at r
  have t : h * (h + (l - 0) + (a - T - 3) * k) = h * h + h * l + k * (h * a) - k * (T * h) - 3 * h * k := by grind
  rw [t]
  omega
theorem step_even {h k a b e l T N : Int} (r : h * N + k * (b + (h - e - 0) + (T - 3) * h) = h * h + k * k + 1 - 3 * h * k) (g : h * a + b = k) (he : h * l - 1 = k * e) : h * N = h * (h + (l - k) + (a - T - 0) * k) := by
  have m : k * b = k * k - k * (h * a) := by rw [show b = k - h * a by omega, Int.mul_sub]
  have f : k * (b + (h - e - 0) + (T - 3) * h) = k * b + h * k - k * e + k * (T * h) - 3 * h * k := by grind
  rw [f, m, ← he] at r
  have t : h * (h + (l - k) + (a - T - 0) * k) = h * h + h * l - h * k + k * (h * a) - k * (T * h) := by grind
  rw [t]
  have u : 3 * h * k = 3 * (h * k) := by grind
  omega
theorem chain_law {h k : Int} {L : List Int} (c : Cp h k L) : 0 < k → 0 ≤ h → Int.gcd h k = 1 → ∀ l, 1 ≤ l → l ≤ k → (h * l - 1) % k = 0 →
    dI h k = h + (l - if L.length % 2 = 0 then k else 0) + (turns L - if L.length % 2 = 1 then 3 else 0) * k := by
  induction c with
  | @nil k =>
    intro k0 h0 hg l l0 l1 hl
    rw [Int.gcd_zero_left] at hg
    have : k = 1 := by omega
    subst this
    have : l = 1 := by omega
    subst this
    simp [turns]
    unfold dI
    exact dN_one 0
  | @cons h k L hh c ih =>
    intro k0 h0 hg l l0 l1 hl
    have m1 := Int.emod_nonneg k (b := h) (by omega)
    have m2 := Int.emod_lt_of_pos k hh
    have g1 := Int.mul_ediv_add_emod k h
    have g2 : Int.gcd (k % h) h = 1 := by rw [Int.gcd_comm, gcd_step (by omega) hh, Int.gcd_comm]; exact hg
    obtain ⟨e, he⟩ := Int.dvd_of_emod_eq_zero hl
    have hhl : h * l ≤ h * k := Int.mul_le_mul_of_nonneg_left l1 (by omega)
    have hhl0 : h * 1 ≤ h * l := Int.mul_le_mul_of_nonneg_left l0 (by omega)
    have e0 : 0 ≤ e := by
      rcases Int.lt_or_le e 0 with q | q
      · have := Int.mul_neg_of_pos_of_neg k0 q
        omega
      · exact q
    have e1 : e < h := by
      have : k * e < k * h := by rw [Int.mul_comm k h]; omega
      exact Int.lt_of_mul_lt_mul_left this (by omega)
    have hl2 : (k % h * (h - e) - 1) % h = 0 := by
      have : k % h * (h - e) - 1 = h * (k % h - l + k / h * e) := by
        have : k * e = (h * (k / h) + k % h) * e := by rw [g1]
        grind
      rw [this]
      exact Int.mul_emod_right _ _
    have ih := ih hh m1 g2 (h - e) (by omega) (by omega) hl2
    have r := recipI hh k0 hg
    rw [dI_mod hh (by omega)] at ih
    rw [ih] at r
    rw [List.length_cons]
    unfold turns
    generalize turns L = T at *
    generalize k / h = a at *
    generalize k % h = b at *
    generalize dI h k = N at *
    clear ih hl hl2 hhl hhl0 g2 hg c
    have fin : h * N = h * (h + (l - if (L.length + 1) % 2 = 0 then k else 0) + (a - T - if (L.length + 1) % 2 = 1 then 3 else 0) * k) := by
      rcases Nat.mod_two_eq_zero_or_one L.length with q | q
      · rw [if_pos q, if_neg (by omega)] at r
        rw [if_neg (by omega), if_pos (by omega)]
        exact step_odd r g1 he
      · rw [if_neg (by omega), if_pos q] at r
        rw [if_pos (by omega), if_neg (by omega)]
        exact step_even r g1 he
    exact Int.eq_of_mul_eq_mul_left (by omega) fin
theorem Eu_log {h k : Int} {L : List (Int × Int)} (e : Eu h k L) : ∀ n : Nat, 0 ≤ h → h ≤ k → h * k < 2 ^ n → L.length ≤ n + 1 := by
  induction e with
  | nil => intros; simp
  | @cons h k L hh e ih =>
    intro n h0 hk hn
    have m1 := Int.emod_nonneg k (b := h) (by omega)
    have m2 := Int.emod_lt_of_pos k hh
    have g := Int.mul_ediv_add_emod k h
    have q1 : 1 ≤ k / h := (Int.le_ediv_iff_mul_le hh).mpr (by omega)
    have q2 : h * 1 ≤ h * (k / h) := Int.mul_le_mul_of_nonneg_left q1 (by omega)
    rw [List.length_cons]
    match n, hn with
    | 0, hn =>
      have : 1 * 1 ≤ h * k := Int.mul_le_mul (by omega) (by omega) (by omega) (by omega)
      omega
    | n + 1, hn =>
      have h5 : (2 * (k % h)) * h ≤ k * h := Int.mul_le_mul_of_nonneg_right (by omega) (by omega)
      have h6 : h * k < 2 * 2 ^ n := by rw [Int.pow_succ] at hn; omega
      have h7 : (2 * (k % h)) * h = 2 * (k % h * h) := by grind
      have h8 : k * h = h * k := Int.mul_comm _ _
      have := ih n m1 (by omega) (by omega)
      omega
theorem Eu_ex : ∀ (n : Nat) (h k : Int), h.toNat ≤ n → 0 ≤ h → ∃ L, Eu h k L
  | n, h, k, hn, h0 => by
    by_cases hz : h = 0
    · subst hz; exact ⟨_, .nil⟩
    · have m1 := Int.emod_nonneg k (b := h) (by omega)
      have m2 := Int.emod_lt_of_pos k (by omega : 0 < h)
      match n with
      | 0 => omega
      | n + 1 =>
        obtain ⟨L, hL⟩ := Eu_ex n (k % h) h (by omega) m1
        exact ⟨_, .cons (by omega) hL⟩
theorem Cp_log {h k : Int} {L : List Int} (c : Cp h k L) : ∀ n : Nat, 0 ≤ h → h ≤ k → h * k < 2 ^ n → L.length ≤ n := by
  induction c with
  | nil => intros; simp
  | @cons h k L hh e ih =>
    intro n h0 hk hn
    have m1 := Int.emod_nonneg k (b := h) (by omega)
    have m2 := Int.emod_lt_of_pos k hh
    have g := Int.mul_ediv_add_emod k h
    have q1 : 1 ≤ k / h := (Int.le_ediv_iff_mul_le hh).mpr (by omega)
    have q2 : h * 1 ≤ h * (k / h) := Int.mul_le_mul_of_nonneg_left q1 (by omega)
    rw [List.length_cons]
    match n, hn with
    | 0, hn =>
      have : 1 * 1 ≤ h * k := Int.mul_le_mul (by omega) (by omega) (by omega) (by omega)
      omega
    | n + 1, hn =>
      have h5 : (2 * (k % h)) * h ≤ k * h := Int.mul_le_mul_of_nonneg_right (by omega) (by omega)
      have h6 : h * k < 2 * 2 ^ n := by rw [Int.pow_succ] at hn; omega
      have h7 : (2 * (k % h)) * h = 2 * (k % h * h) := by grind
      have h8 : k * h = h * k := Int.mul_comm _ _
      have := ih n m1 (by omega) (by omega)
      omega
theorem Cp_ex : ∀ (n : Nat) (h k : Int), h.toNat ≤ n → 0 ≤ h → ∃ L, Cp h k L
  | n, h, k, hn, h0 => by
    by_cases hz : h = 0
    · subst hz; exact ⟨_, .nil⟩
    · have m1 := Int.emod_nonneg k (b := h) (by omega)
      have m2 := Int.emod_lt_of_pos k (by omega : 0 < h)
      match n with
      | 0 => omega
      | n + 1 =>
        obtain ⟨L, hL⟩ := Cp_ex n (k % h) h (by omega) m1
        exact ⟨_, .cons (by omega) hL⟩
theorem Cp_uniq {h k : Int} {L : List Int} (c : Cp h k L) : ∀ {M}, Cp h k M → M = L := by
  induction c with
  | nil => intro M d; cases d with
    | nil => rfl
    | cons h _ => omega
  | cons hh e ih => intro M d; cases d with
    | nil => omega
    | cons _ d => rw [ih d]
theorem turns_sum : ∀ L : List Int, (sumN L.length fun i => L.getD i 0 * (1 - 2 * ((i : Int) % 2))) = turns L
  | [] => rfl
  | a :: L => by
    rw [List.length_cons, sumN_shift]
    unfold turns
    rw [← turns_sum L]
    have : (fun i : Nat => (a :: L).getD (i + 1) 0 * (1 - 2 * (((i + 1 : Nat) : Int) % 2))) = fun i : Nat => (-1) * (L.getD i 0 * (1 - 2 * ((i : Int) % 2))) := by
      funext i
      show L.getD i 0 * _ = _
      rcases Int.emod_two_eq (i : Int) with h | h
      · rw [h, show (((i + 1 : Nat) : Int) % 2) = 1 by omega]; grind
      · rw [h, show (((i + 1 : Nat) : Int) % 2) = 0 by omega]; grind
    rw [this, sumN_mul]
    simp; omega
theorem turns_alt : ∀ L : List Int, (sumN ((L.length + 1) / 2) fun i => L.getD (i * 2) 0) - (sumN (L.length / 2) fun i => L.getD (1 + i * 2) 0) = turns L
  | [] => rfl
  | [a] => by simp [turns, sumN]
  | a :: b :: L => by
    have := turns_alt L
    rw [List.length_cons, List.length_cons, show (L.length + 1 + 1 + 1) / 2 = (L.length + 1) / 2 + 1 by omega, show (L.length + 1 + 1) / 2 = L.length / 2 + 1 by omega, sumN_shift, sumN_shift]
    unfold turns
    unfold turns
    have e1 : (fun i : Nat => (a :: b :: L).getD ((i + 1) * 2) 0) = fun i => L.getD (i * 2) 0 := by
      funext i; rw [show (i + 1) * 2 = i * 2 + 1 + 1 by omega]; rfl
    have e2 : (fun i : Nat => (a :: b :: L).getD (1 + (i + 1) * 2) 0) = fun i => L.getD (1 + i * 2) 0 := by
      funext i; rw [show 1 + (i + 1) * 2 = 1 + i * 2 + 1 + 1 by omega]; rfl
    rw [e1, e2, ← this]
    show a + _ - (b + _) = a - (b - _)
    omega
theorem dI_bd9 {h k : Int} (hh : 0 ≤ h) (hk : 0 < k) (hhk : h ≤ k) (h5 : k ≤ 1000000000) : (dI h k).natAbs ≤ 10 ^ 30 := by
  obtain ⟨a, rfl⟩ := Int.eq_ofNat_of_zero_le hh
  obtain ⟨b, rfl⟩ := Int.eq_ofNat_of_zero_le (show 0 ≤ k by omega)
  unfold dI dN
  simp only [Int.toNat_natCast]
  have t1 : (flT a b).natAbs ≤ b * (1000000000 * 1000000000) := by
    refine sumN_bd b fun i hi => ?_
    rw [Int.natAbs_mul]
    refine Nat.mul_le_mul (by omega) ?_
    have : a * i / b < a + 1 := by
      refine Nat.div_lt_of_lt_mul ?_
      have h1 : a * i ≤ a * b := Nat.mul_le_mul (Nat.le_refl _) (by omega)
      have h2 : b * (a + 1) = a * b + b := by rw [Nat.mul_add, Nat.mul_comm]; simp
      omega
    rw [Int.natAbs_natCast]
    omega
  have t2 : b * (1000000000 * 1000000000) ≤ 1000000000 * (1000000000 * 1000000000) := Nat.mul_le_mul (by omega) (Nat.le_refl _)
  have t3 : (2 * (a : Int) * (b - 1) * (2 * b - 1)).natAbs ≤ 2000000000 * 1000000000 * 2000000000 := by
    rw [Int.natAbs_mul, Int.natAbs_mul]
    exact Nat.mul_le_mul (Nat.mul_le_mul (by omega) (by omega)) (by omega)
  have t4 : (3 * (b : Int) * (b - 1)).natAbs ≤ 3000000000 * 1000000000 := by
    rw [Int.natAbs_mul]
    exact Nat.mul_le_mul (by omega) (by omega)
  omega
end LW
set_option Elab.async false
set_option linter.all false
set_option maxRecDepth 100000
set_option maxHeartbeats 1000000
/-! plain mathematics for k12: brackets of rows -/
namespace LW
open MM PySem
structure Tb where
  x : Int
  y : Int
  z : Int
  w : Int
def tb : List Int → Tb
  | [] => ⟨1, 0, 0, 1⟩
  | a :: L => ⟨a * (tb L).x + (tb L).z, a * (tb L).y + (tb L).w, (tb L).x, (tb L).y⟩
theorem tb_cons (a : Int) (L : List Int) : tb (a :: L) = ⟨a * (tb L).x + (tb L).z, a * (tb L).y + (tb L).w, (tb L).x, (tb L).y⟩ := rfl
def bk (L : List Int) : Int := (tb L).x
theorem tb_app (M : List Int) : ∀ L : List Int, tb (L ++ M) = ⟨(tb L).x * (tb M).x + (tb L).y * (tb M).z, (tb L).x * (tb M).y + (tb L).y * (tb M).w, (tb L).z * (tb M).x + (tb L).w * (tb M).z, (tb L).z * (tb M).y + (tb L).w * (tb M).w⟩
  | [] => by simp [tb]
  | a :: L => by
    rw [List.cons_append, tb_cons, tb_cons, tb_app M L]
    simp only [Tb.mk.injEq]
    refine ⟨?_, ?_, ?_, ?_⟩ <;> grind
theorem tb_one (a : Int) : tb [a] = ⟨a, 1, 1, 0⟩ := by simp [tb]
theorem tb_snoc (L : List Int) (a : Int) : tb (L ++ [a]) = ⟨(tb L).x * a + (tb L).y, (tb L).x, (tb L).z * a + (tb L).w, (tb L).z⟩ := by
  rw [tb_app, tb_one]; simp
theorem tb_rev : ∀ L : List Int, tb L.reverse = ⟨(tb L).x, (tb L).z, (tb L).y, (tb L).w⟩
  | [] => by simp [tb]
  | a :: L => by
    rw [List.reverse_cons, tb_snoc, tb_rev L]
    simp only [tb, Tb.mk.injEq]
    refine ⟨?_, trivial, ?_, trivial⟩ <;> grind
theorem bk_rev (L : List Int) : bk L.reverse = bk L := by unfold bk; rw [tb_rev]
theorem bk_snoc (L : List Int) (a : Int) : bk (L ++ [a]) = a * bk L + (tb L).y := by
  unfold bk; rw [tb_snoc]; show (tb L).x * a + _ = _; rw [Int.mul_comm]
theorem tb_det : ∀ L : List Int, (tb L).x * (tb L).w - (tb L).y * (tb L).z = if L.length % 2 = 0 then 1 else -1
  | [] => by simp [tb]
  | a :: L => by
    have := tb_det L
    unfold tb
    rw [List.length_cons]
    have e : (a * (tb L).x + (tb L).z) * (tb L).y - (a * (tb L).y + (tb L).w) * (tb L).x = -((tb L).x * (tb L).w - (tb L).y * (tb L).z) := by grind
    dsimp only
    rw [e, this]
    rcases Nat.mod_two_eq_zero_or_one L.length with h | h
    · rw [if_pos h, if_neg (by omega)]
    · rw [if_neg (by omega), if_pos (by omega)]; rfl
theorem tb_bd {B : Nat} : ∀ L : List Int, (∀ a ∈ L, a.natAbs ≤ B) → (tb L).x.natAbs ≤ (B + 1) ^ L.length ∧ (tb L).z.natAbs ≤ (B + 1) ^ L.length
  | [], _ => by simp [tb]
  | a :: L, h => by
    have ⟨h1, h2⟩ := tb_bd L fun b hb => h b (List.mem_cons_of_mem _ hb)
    have h3 := h a (List.mem_cons_self ..)
    rw [List.length_cons, Nat.pow_succ]
    unfold tb
    dsimp only
    have h4 : (a * (tb L).x).natAbs ≤ B * (B + 1) ^ L.length := by rw [Int.natAbs_mul]; exact Nat.mul_le_mul h3 h1
    have h5 : (B + 1) ^ L.length * (B + 1) = B * (B + 1) ^ L.length + (B + 1) ^ L.length := by rw [Nat.mul_add, Nat.mul_comm]; omega
    rw [h5]
    refine ⟨by omega, ?_⟩
    have := Nat.zero_le (B * (B + 1) ^ L.length)
    omega
theorem bk_bd {B n : Nat} {L : List Int} (h : ∀ a ∈ L, a.natAbs ≤ B) (hn : L.length ≤ n) : (bk L).natAbs ≤ (B + 1) ^ n :=
  Nat.le_trans (tb_bd L h).1 (Nat.pow_le_pow_right (by omega) hn)
/-! ### rows with couples left out -/
def prodL : List Int → Int
  | [] => 1
  | a :: L => a * prodL L
theorem prodL_cons (a : Int) (L : List Int) : prodL (a :: L) = a * prodL L := rfl
theorem prodL_snoc (a : Int) : ∀ L : List Int, prodL (L ++ [a]) = prodL L * a
  | [] => by simp [prodL]
  | b :: L => by rw [List.cons_append, prodL_cons, prodL_cons, prodL_snoc a L, Int.mul_assoc]
theorem prodL_app (M : List Int) : ∀ L : List Int, prodL (L ++ M) = prodL L * prodL M
  | [] => by simp [prodL]
  | b :: L => by rw [List.cons_append, prodL_cons, prodL_cons, prodL_app M L, Int.mul_assoc]
def rl (L : List Int) : List (List Int) × List (List Int) := L.foldl (fun s a => (s.1.map (fun l => l ++ [a]) ++ s.2, s.1)) ([[]], [])
theorem rl_snoc (L : List Int) (a : Int) : rl (L ++ [a]) = ((rl L).1.map (fun l => l ++ [a]) ++ (rl L).2, (rl L).1) := by
  unfold rl; rw [List.foldl_append]; rfl
def sm (l : List (List Int)) : Int := (l.map prodL).sum
theorem sm_snoc (a : Int) : ∀ l : List (List Int), sm (l.map fun r => r ++ [a]) = a * sm l
  | [] => by simp [sm]
  | r :: l => by
    have := sm_snoc a l
    unfold sm at *
    rw [List.map_cons, List.map_cons, List.sum_cons, this, List.map_cons, List.sum_cons, prodL_snoc]; grind
theorem sm_app (l m : List (List Int)) : sm (l ++ m) = sm l + sm m := by
  unfold sm; rw [List.map_append, List.sum_append]
theorem snoc_ind {P : List Int → Prop} (h0 : P []) (h1 : ∀ L a, P L → P (L ++ [a])) (L : List Int) : P L := by
  have : ∀ M : List Int, P M.reverse := fun M => by
    induction M with
    | nil => exact h0
    | cons a M ih => rw [List.reverse_cons]; exact h1 _ _ ih
  have := this L.reverse
  rwa [List.reverse_reverse] at this
theorem rl_sm (L : List Int) : sm (rl L).1 = bk L ∧ sm (rl L).2 = (tb L).y := by
  refine snoc_ind (P := fun L => sm (rl L).1 = bk L ∧ sm (rl L).2 = (tb L).y) ⟨rfl, rfl⟩ (fun L a ⟨h1, h2⟩ => ?_) L
  rw [rl_snoc]
  dsimp only
  rw [sm_app, sm_snoc, h1, h2, bk_snoc, tb_snoc]
  exact ⟨rfl, rfl⟩
theorem rl_len (L : List Int) : (rl L).1.length ≤ 2 ^ L.length ∧ (rl L).2.length ≤ 2 ^ L.length := by
  refine snoc_ind (P := fun L => (rl L).1.length ≤ 2 ^ L.length ∧ (rl L).2.length ≤ 2 ^ L.length) ⟨by decide, by decide⟩ (fun L a ⟨h1, h2⟩ => ?_) L
  rw [rl_snoc, List.length_append, List.length_append, List.length_map, List.length_singleton, Nat.pow_succ]
  dsimp only
  omega
theorem rl_mem (B : Nat) (L : List Int) : (∀ a ∈ L, a.natAbs ≤ B) → (∀ l ∈ (rl L).1, l.length ≤ L.length ∧ ∀ a ∈ l, a.natAbs ≤ B) ∧ ∀ l ∈ (rl L).2, l.length ≤ L.length ∧ ∀ a ∈ l, a.natAbs ≤ B := by
  refine snoc_ind (P := fun L => (∀ a ∈ L, a.natAbs ≤ B) → (∀ l ∈ (rl L).1, l.length ≤ L.length ∧ ∀ a ∈ l, a.natAbs ≤ B) ∧ ∀ l ∈ (rl L).2, l.length ≤ L.length ∧ ∀ a ∈ l, a.natAbs ≤ B) ?_ (fun L a ih h => ?_) L
  · intro _
    refine ⟨fun l hl => ?_, fun l hl => ?_⟩
    · have : l = [] := by simpa [rl] using hl
      subst this
      exact ⟨Nat.le_refl _, fun a ha => by cases ha⟩
    · have : l ∈ ([] : List (List Int)) := hl
      cases this
  · obtain ⟨i1, i2⟩ := ih fun b hb => h b (by simp [hb])
    rw [rl_snoc]
    refine ⟨fun l hl => ?_, fun l hl => ?_⟩
    · rcases List.mem_append.mp hl with q | q
      · obtain ⟨m, hm, rfl⟩ := List.mem_map.mp q
        obtain ⟨a1, a2⟩ := i1 m hm
        rw [List.length_append, List.length_append, List.length_singleton]
        refine ⟨by omega, fun b hb => ?_⟩
        rcases List.mem_append.mp hb with q | q
        · exact a2 b q
        · rw [List.mem_singleton] at q; subst q; exact h b (by simp)
      · obtain ⟨a1, a2⟩ := i2 l q
        rw [List.length_append]
        exact ⟨by omega, a2⟩
    · obtain ⟨a1, a2⟩ := i1 l hl
      rw [List.length_append]
      exact ⟨by omega, a2⟩
/-! ### the walk over all rows with couples left out -/
def fb : Nat → Nat
  | 0 => 1
  | 1 => 1
  | n + 2 => fb (n + 1) + fb n
def dv (l : List Int) (s : Nat) : Int := prodL (l.take s) * bk (l.drop s)
theorem dv_end {l : List Int} {s : Nat} (h : l.length ≤ s + 1) : dv l s = prodL l := by
  have e : prodL (l.take s) * prodL (l.drop s) = prodL l := by rw [← prodL_app, List.take_append_drop]
  rw [← e]
  unfold dv
  congr 1
  have : (l.drop s).length ≤ 1 := by rw [List.length_drop]; omega
  match l.drop s, this with
  | [], _ => rfl
  | [a], _ => simp [bk, tb, prodL]
theorem dv_step {l : List Int} {s : Nat} (h : s + 1 < l.length) : dv l s = dv (l.take s ++ l.drop (s + 2)) s + dv l (s + 1) := by
  obtain ⟨p, a, b, r, rfl, rfl⟩ : ∃ p a b r, l = p ++ a :: b :: r ∧ p.length = s := by
    refine ⟨l.take s, l[s], l[s + 1], l.drop (s + 2), ?_, by rw [List.length_take]; omega⟩
    rw [List.getElem_cons_drop, List.getElem_cons_drop, List.take_append_drop]
  unfold dv
  have e1 : (p ++ a :: b :: r).take p.length = p := by simp
  have e2 : (p ++ a :: b :: r).drop (p.length + 2) = r := by rw [List.drop_append]; simp
  have e3 : (p ++ a :: b :: r).drop p.length = a :: b :: r := by simp
  have e4 : (p ++ a :: b :: r).take (p.length + 1) = p ++ [a] := by rw [List.take_append, List.take_of_length_le (by omega)]; simp
  have e5 : (p ++ a :: b :: r).drop (p.length + 1) = b :: r := by rw [List.drop_append]; simp
  rw [e1, e2, e3, e4, e5]
  have e6 : (p ++ r).take p.length = p := by simp
  have e7 : (p ++ r).drop p.length = r := by simp
  rw [e6, e7, prodL_snoc]
  have : bk (a :: b :: r) = a * bk (b :: r) + bk r := rfl
  rw [this]; grind
theorem fb_pos : ∀ n, 1 ≤ fb n
  | 0 => by decide
  | 1 => by decide
  | n + 2 => by unfold fb; have := fb_pos n; omega
theorem fb_le : ∀ n, fb n ≤ 2 ^ n ∧ fb (n + 1) ≤ 2 ^ (n + 1)
  | 0 => by decide
  | n + 1 => by
    have ⟨h1, h2⟩ := fb_le n
    refine ⟨h2, ?_⟩
    unfold fb
    rw [Nat.pow_succ 2 (n + 1)]
    rw [Nat.pow_succ] at h2 ⊢
    omega
end LW
set_option Elab.async false
set_option linter.all false
set_option maxRecDepth 100000
set_option maxHeartbeats 1000000
/-! plain mathematics for k13: chains of fractions, told backward -/
namespace LW
open MM PySem
/-- a chain: numbers from 1 on -/
def Chn (N : List Int) : Prop := N ≠ [] ∧ ∀ a ∈ N, 1 ≤ a
theorem Chn.tail {a b : Int} {N : List Int} (h : Chn (a :: b :: N)) : Chn (b :: N) := ⟨by simp, fun c hc => h.2 c (List.mem_cons_of_mem _ hc)⟩
theorem chn_pos : ∀ {N : List Int}, Chn N → 1 ≤ (tb N).z ∧ (tb N).z ≤ (tb N).x ∧ ((tb N).x = (tb N).z → N = [1])
  | [], h => absurd rfl h.1
  | [a], h => by
    have := h.2 a (by simp)
    rw [tb_one]
    dsimp only
    exact ⟨by decide, this, fun e => by rw [e]⟩
  | a :: b :: N, h => by
    have ha := h.2 a (by simp)
    obtain ⟨h1, h2, h3⟩ := chn_pos h.tail
    rw [tb_cons a (b :: N)]
    dsimp only
    have := Int.mul_le_mul_of_nonneg_right ha (show 0 ≤ (tb (b :: N)).x by omega)
    refine ⟨by omega, by omega, fun e => ?_⟩
    omega
theorem Chn.rev {N : List Int} (h : Chn N) : Chn N.reverse := ⟨by simpa using h.1, fun a ha => h.2 a (by simpa using ha)⟩
theorem tb_rev_z (N : List Int) : (tb N.reverse).z = (tb N).y := by rw [tb_rev]
theorem tb_rev_x (N : List Int) : (tb N.reverse).x = (tb N).x := by rw [tb_rev]
/-- the chain with its last number parted -/
def lng (L : List Int) : List Int := L.dropLast ++ [L.getLastD 0 - 1, 1]
theorem lng_cons {a : Int} {L : List Int} (h : L ≠ []) : lng (a :: L) = a :: lng L := by
  unfold lng
  rw [List.dropLast_cons_of_ne_nil h]
  match L, h with
  | b :: L, _ => rfl
theorem lng_length {L : List Int} (h : L ≠ []) : (lng L).length = L.length + 1 := by
  unfold lng
  rw [List.length_append, List.length_dropLast]
  have := List.length_pos_iff.mpr h
  simp; omega
theorem Cp_tb {q p : Int} {L : List Int} (c : Cp q p L) : 0 ≤ q → 0 < p → Int.gcd q p = 1 → (tb L).x = p ∧ (tb L).z = q := by
  induction c with
  | @nil k =>
    intro _ h0 hg
    rw [Int.gcd_zero_left] at hg
    have : k = 1 := by omega
    subst this
    exact ⟨rfl, rfl⟩
  | @cons h k L hh c ih =>
    intro _ k0 hg
    have g := Int.mul_ediv_add_emod k h
    have hg2 : Int.gcd (k % h) h = 1 := by rw [Int.gcd_comm, gcd_step (by omega) hh, Int.gcd_comm]; exact hg
    obtain ⟨h1, h2⟩ := ih (Int.emod_nonneg _ (by omega)) hh hg2
    rw [tb_cons]
    dsimp only
    rw [h1, h2]
    refine ⟨?_, rfl⟩
    rw [Int.mul_comm]; omega
theorem Cp_pos {q p : Int} {L : List Int} (c : Cp q p L) : 0 ≤ q → q ≤ p → ∀ a ∈ L, 1 ≤ a := by
  induction c with
  | nil => intro _ _ a ha; cases ha
  | @cons h k L hh c ih =>
    intro _ hk a ha
    rcases List.mem_cons.mp ha with e | e
    · subst e
      exact (Int.le_ediv_iff_mul_le hh).mpr (by omega)
    · exact ih (Int.emod_nonneg _ (by omega)) (Int.le_of_lt (Int.emod_lt_of_pos _ hh)) a e
theorem Cp_ne {q p : Int} {L : List Int} (c : Cp q p L) (h : 0 < q) : L ≠ [] := by
  cases c with
  | nil => omega
  | cons _ _ => simp
theorem Cp_last {q p : Int} {L : List Int} (c : Cp q p L) : 0 < q → q < p → Int.gcd q p = 1 → 2 ≤ L.getLastD 0 := by
  induction c with
  | nil => intro h; omega
  | @cons h k L hh c ih =>
    intro _ hk hg
    have g := Int.mul_ediv_add_emod k h
    have m0 := Int.emod_nonneg k (b := h) (by omega)
    have m1 := Int.emod_lt_of_pos k hh
    by_cases z : k % h = 0
    · rw [z] at c
      cases c with
      | nil =>
        have h1 : h = 1 := by
          have d : (h : Int) ∣ (Int.gcd h k : Int) := Int.dvd_coe_gcd (Int.dvd_refl h) (Int.dvd_of_emod_eq_zero z)
          rw [hg] at d
          have := Int.le_of_dvd (by decide) d
          omega
        subst h1
        show 2 ≤ k / 1
        rw [Int.ediv_one]; omega
      | cons h _ => omega
    · have hne := Cp_ne c (by omega)
      have := ih (by omega) m1 (by rw [Int.gcd_comm, gcd_step (by omega) hh, Int.gcd_comm]; exact hg)
      match L, hne with
      | b :: L, _ => exact this
theorem lng_tb : ∀ {L : List Int}, L ≠ [] → (tb (lng L)).x = (tb L).x ∧ (tb (lng L)).z = (tb L).z
  | [a], _ => by
    show (tb [a - 1, 1]).x = (tb [a]).x ∧ (tb [a - 1, 1]).z = (tb [a]).z
    simp [tb]
  | a :: b :: L, _ => by
    rw [lng_cons (by simp)]
    obtain ⟨h1, h2⟩ := lng_tb (L := b :: L) (by simp)
    rw [tb_cons a (lng (b :: L)), tb_cons a (b :: L)]
    dsimp only
    rw [h1, h2]
    exact ⟨rfl, rfl⟩
/-- a chain of a fraction is the short one or the long one -/
theorem chn_two : ∀ {N : List Int} {q p : Int} {L : List Int}, Chn N → Cp q p L → (tb N).x = p → (tb N).z = q → q < p → N = L ∨ N = lng L
  | [], _, _, _, h, _, _, _, _ => absurd rfl h.1
  | [a], q, p, L, h, c, hx, hz, hlt => by
    rw [tb_one] at hx hz
    dsimp only at hx hz
    subst hx hz
    left
    have : Cp 1 a [a] := by
      have := Cp.cons (h := 1) (k := a) (by decide) (by rw [Int.emod_one]; exact Cp.nil)
      rwa [Int.ediv_one] at this
    exact Cp_uniq c this
  | a :: b :: N, q, p, L, h, c, hx, hz, hlt => by
    have ha := h.2 a (by simp)
    obtain ⟨h1, h2, h3⟩ := chn_pos h.tail
    rw [tb_cons a (b :: N)] at hx hz
    dsimp only at hx hz
    by_cases e : (tb (b :: N)).x = (tb (b :: N)).z
    · have hN := h3 e
      rw [hN] at hx hz ⊢
      rw [tb_one] at hx hz
      dsimp only at hx hz
      subst hz hx
      right
      have : Cp 1 (a * 1 + 1) [a * 1 + 1] := by
        have := Cp.cons (h := 1) (k := a * 1 + 1) (by decide) (by rw [Int.emod_one]; exact Cp.nil)
        rwa [Int.ediv_one] at this
      rw [Cp_uniq this c]
      show [a, 1] = [a * 1 + 1 - 1, 1]
      rw [show a * 1 + 1 - 1 = a by omega]
    · generalize hp' : (tb (b :: N)).x = p' at *
      generalize hq' : (tb (b :: N)).z = q' at *
      subst hz
      have d : p / p' = a ∧ p % p' = q' := by
        have e1 : p = q' + p' * a := by rw [Int.mul_comm]; omega
        refine ⟨?_, ?_⟩
        · rw [e1, Int.add_mul_ediv_left _ _ (by omega), Int.ediv_eq_zero_of_lt (by omega) (by omega)]; omega
        · rw [e1, Int.add_mul_emod_self_left, Int.emod_eq_of_lt (by omega) (by omega)]
      cases c with
      | nil => omega
      | @cons _ _ L hh c =>
        rw [d.2] at c
        rw [d.1]
        rcases chn_two h.tail c hp' hq' (by omega) with e2 | e2
        · rw [e2]; exact .inl rfl
        · rw [e2]
          exact .inr (lng_cons (Cp_ne c (by omega))).symm
theorem lng_chn {L : List Int} (h : Chn L) (h2 : 2 ≤ L.getLastD 0) : Chn (lng L) := by
  refine ⟨by unfold lng; simp, fun a ha => ?_⟩
  unfold lng at ha
  rcases List.mem_append.mp ha with e | e
  · exact h.2 a (List.dropLast_subset _ e)
  · simp only [List.mem_cons, List.not_mem_nil, or_false] at e
    omega
/-- the even chain, the odd chain -/
def evn (L : List Int) : List Int := if L.length % 2 = 0 then L else lng L
def odc (L : List Int) : List Int := if L.length % 2 = 1 then L else lng L
structure Fc (q p : Int) (L : List Int) : Prop where
  c : Cp q p L
  q0 : 0 < q
  qp : q < p
  g : Int.gcd q p = 1
theorem Fc.chn (f : Fc q p L) : Chn L := ⟨Cp_ne f.c f.q0, Cp_pos f.c (by have := f.q0; omega) (by have := f.qp; omega)⟩
theorem Fc.last (f : Fc q p L) : 2 ≤ L.getLastD 0 := Cp_last f.c f.q0 f.qp f.g
theorem Fc.tb (f : Fc q p L) : (tb L).x = p ∧ (tb L).z = q := Cp_tb f.c (by have := f.q0; omega) (by have := f.q0; have := f.qp; omega) f.g
theorem Fc.evn (f : Fc q p L) : Chn (evn L) ∧ (LW.tb (evn L)).x = p ∧ (LW.tb (evn L)).z = q ∧ (LW.evn L).length % 2 = 0 := by
  unfold LW.evn
  have hl := lng_length f.chn.1
  split
  · rename_i h; exact ⟨f.chn, f.tb.1, f.tb.2, h⟩
  · exact ⟨lng_chn f.chn f.last, (lng_tb f.chn.1).1.trans f.tb.1, (lng_tb f.chn.1).2.trans f.tb.2, by omega⟩
theorem Fc.odc (f : Fc q p L) : Chn (odc L) ∧ (LW.tb (odc L)).x = p ∧ (LW.tb (odc L)).z = q ∧ (LW.odc L).length % 2 = 1 := by
  unfold LW.odc
  have hl := lng_length f.chn.1
  split
  · rename_i h; exact ⟨f.chn, f.tb.1, f.tb.2, h⟩
  · exact ⟨lng_chn f.chn f.last, (lng_tb f.chn.1).1.trans f.tb.1, (lng_tb f.chn.1).2.trans f.tb.2, by omega⟩
theorem Fc.even {N : List Int} (f : Fc q p L) (h : Chn N) (hx : (LW.tb N).x = p) (hz : (LW.tb N).z = q) (hl : N.length % 2 = 0) : N = LW.evn L := by
  have := lng_length f.chn.1
  unfold LW.evn
  rcases chn_two h f.c hx hz f.qp with e | e
  · rw [← e, if_pos hl]
  · rw [if_neg (by rw [e] at hl; omega)]; exact e
theorem Fc.odd {N : List Int} (f : Fc q p L) (h : Chn N) (hx : (LW.tb N).x = p) (hz : (LW.tb N).z = q) (hl : N.length % 2 = 1) : N = LW.odc L := by
  have := lng_length f.chn.1
  unfold LW.odc
  rcases chn_two h f.c hx hz f.qp with e | e
  · rw [← e, if_pos hl]
  · rw [if_neg (by rw [e] at hl; omega)]; exact e
theorem y_lt {N : List Int} (h : Chn N) (hp : 2 ≤ (tb N).x) : 1 ≤ (tb N).y ∧ (tb N).y < (tb N).x := by
  obtain ⟨h1, h2, h3⟩ := chn_pos h.rev
  rw [tb_rev_z, tb_rev_x] at *
  refine ⟨h1, ?_⟩
  rcases Int.lt_or_eq_of_le h2 with e | e
  · exact e
  · have := h3 e.symm
    have h4 : (tb N.reverse).x = 1 := by rw [this]; rfl
    rw [tb_rev_x] at h4
    omega
/-- q = y, from q (q - y) -/
theorem mod_same {p q y : Int} (hg : Int.gcd q p = 1) (q0 : 0 < q) (qp : q < p) (y0 : 1 ≤ y) (yp : y < p) (h : (q * (q - y)) % p = 0) : q = y := by
  have d := Int.dvd_of_emod_eq_zero h
  have d2 : p ∣ (q - y) := by
    have hc : Nat.Coprime p.natAbs q.natAbs := by rw [Nat.Coprime, Nat.gcd_comm]; exact hg
    have h2 : p.natAbs ∣ q.natAbs * (q - y).natAbs := by
      have := Int.natAbs_dvd_natAbs.mpr d
      rwa [Int.natAbs_mul] at this
    exact Int.natAbs_dvd_natAbs.mp (hc.dvd_of_dvd_mul_left h2)
  obtain ⟨t, ht⟩ := d2
  have t0 : t = 0 := by
    rcases Int.lt_trichotomy t 0 with k | k | k
    · have := Int.mul_le_mul_of_nonneg_left (show t ≤ -1 by omega) (show 0 ≤ p by omega)
      omega
    · exact k
    · have := Int.mul_le_mul_of_nonneg_left (show 1 ≤ t by omega) (show 0 ≤ p by omega)
      omega
  subst t0
  omega
theorem Fc.evenly (f : Fc q p L) : (q * q + 1) % p = 0 ↔ LW.evn L = (LW.evn L).reverse := by
  obtain ⟨h, hx, hz, hl⟩ := f.evn
  have hy := y_lt h (by have := f.q0; have := f.qp; omega)
  have det := tb_det (LW.evn L)
  rw [if_pos hl, hx, hz] at det
  rw [hx] at hy
  generalize hE : LW.evn L = E at *
  constructor
  · intro e
    have : q = (LW.tb E).y := by
      refine mod_same f.g f.q0 f.qp hy.1 hy.2 ?_
      have e1 : q * (q - (LW.tb E).y) = q * q + 1 - p * (LW.tb E).w := by
        have : (LW.tb E).y * q = q * (LW.tb E).y := Int.mul_comm _ _
        rw [Int.mul_sub]; omega
      rw [e1, Int.sub_mul_emod_self_left, e]
    have r := f.even h.rev (by rw [tb_rev_x]; exact hx) (by rw [tb_rev_z]; exact this.symm) (by rw [List.length_reverse]; exact hl)
    rw [hE] at r
    exact r.symm
  · intro e
    have e2 : (LW.tb E).y = q := by
      rw [← tb_rev_z, ← e]; exact hz
    rw [e2] at det
    have : q * q + 1 = p * (LW.tb E).w := by omega
    rw [this]
    exact Int.mul_emod_right _ _
theorem Fc.oddly (f : Fc q p L) : (q * q - 1) % p = 0 ↔ LW.odc L = (LW.odc L).reverse := by
  obtain ⟨h, hx, hz, hl⟩ := f.odc
  have hy := y_lt h (by have := f.q0; have := f.qp; omega)
  have det := tb_det (LW.odc L)
  rw [if_neg (by omega), hx, hz] at det
  rw [hx] at hy
  generalize hE : LW.odc L = E at *
  constructor
  · intro e
    have : q = (LW.tb E).y := by
      refine mod_same f.g f.q0 f.qp hy.1 hy.2 ?_
      have e1 : q * (q - (LW.tb E).y) = q * q - 1 - p * (LW.tb E).w := by
        have : (LW.tb E).y * q = q * (LW.tb E).y := Int.mul_comm _ _
        rw [Int.mul_sub]; omega
      rw [e1, Int.sub_mul_emod_self_left, e]
    have r := f.odd h.rev (by rw [tb_rev_x]; exact hx) (by rw [tb_rev_z]; exact this.symm) (by rw [List.length_reverse]; exact hl)
    rw [hE] at r
    exact r.symm
  · intro e
    have e2 : (LW.tb E).y = q := by
      rw [← tb_rev_z, ← e]; exact hz
    rw [e2] at det
    have : q * q - 1 = p * (LW.tb E).w := by omega
    rw [this]
    exact Int.mul_emod_right _ _
/-- a row and the same backward -/
theorem tb_mirror (H : List Int) : tb (H ++ H.reverse) = ⟨(tb H).x * (tb H).x + (tb H).y * (tb H).y, (tb H).x * (tb H).z + (tb H).y * (tb H).w, (tb H).z * (tb H).x + (tb H).w * (tb H).y, (tb H).z * (tb H).z + (tb H).w * (tb H).w⟩ := by
  rw [tb_app, tb_rev]
theorem half_of {E : List Int} (hl : E.length % 2 = 0) (h : E = E.reverse) : E = E.take (E.length / 2) ++ (E.take (E.length / 2)).reverse := by
  have e1 : (E.take (E.length / 2)).reverse = E.drop (E.length / 2) := by
    have := List.drop_reverse (xs := E) (i := E.length / 2)
    rw [← h] at this
    rw [this]
    congr 2
    omega
  rw [e1, List.take_append_drop]
end LW
set_option Elab.async false
set_option linter.all false
set_option maxRecDepth 100000
set_option maxHeartbeats 1000000
/-! plain mathematics for k78: of two fractions of a chain one is near, of three one is nearer -/
namespace LW
open MM PySem
theorem pos_all : ∀ N : List Int, (∀ a ∈ N, 1 ≤ a) → 1 ≤ (tb N).x ∧ 0 ≤ (tb N).y ∧ 0 ≤ (tb N).z ∧ 0 ≤ (tb N).w
  | [], _ => by simp [tb]
  | a :: N, h => by
    obtain ⟨h1, h2, h3, h4⟩ := pos_all N fun b hb => h b (List.mem_cons_of_mem _ hb)
    have ha := h a (List.mem_cons_self ..)
    have e1 := Int.mul_le_mul_of_nonneg_right ha (show 0 ≤ (tb N).x by omega)
    have e2 := Int.mul_nonneg (show 0 ≤ a by omega) h2
    rw [tb_cons]
    dsimp only
    exact ⟨by omega, by omega, by omega, h2⟩
structure Xc (a b : Int) (L : List Int) : Prop where
  c : Cp b a L
  b0 : 0 < b
  g : Int.gcd a b = 1
theorem Xc.parts {a b : Int} {L : List Int} (h : Xc a b L) : ∃ M, L = a / b :: M ∧ Cp (a % b) b M ∧ 0 ≤ a % b ∧ a % b < b ∧ Int.gcd (a % b) b = 1 := by
  obtain ⟨c, b0, g⟩ := h
  have m0 := Int.emod_nonneg a (b := b) (by omega)
  have m1 := Int.emod_lt_of_pos a b0
  have hg : Int.gcd (a % b) b = 1 := by
    have d1 : (Int.gcd (a % b) b : Int) ∣ a := by
      have e : a = b * (a / b) + a % b := (Int.mul_ediv_add_emod a b).symm
      have := Int.dvd_add (Int.dvd_trans (Int.gcd_dvd_right (a % b) b) (Int.dvd_mul_right b (a / b))) (Int.gcd_dvd_left (a % b) b)
      rwa [← e] at this
    have := Int.dvd_coe_gcd d1 (Int.gcd_dvd_right (a % b) b)
    rw [g] at this
    have := Int.le_of_dvd (by decide) this
    have : Int.gcd (a % b) b ≠ 0 := fun z => by rw [Int.gcd_eq_zero_iff] at z; omega
    omega
  cases c with
  | nil => omega
  | cons _ c => exact ⟨_, rfl, c, m0, m1, hg⟩
theorem Xc.ne {a b : Int} {L : List Int} (h : Xc a b L) : L ≠ [] := by
  obtain ⟨M, rfl, _⟩ := h.parts
  simp
theorem Xc.tb {a b : Int} {L : List Int} (h : Xc a b L) : (LW.tb L).x = a ∧ (LW.tb L).z = b := by
  have b0 := h.b0
  obtain ⟨M, rfl, c, m0, m1, hg⟩ := h.parts
  obtain ⟨h1, h2⟩ := Cp_tb c m0 b0 hg
  have g := Int.mul_ediv_add_emod a b
  rw [tb_cons]
  dsimp only
  rw [h1, h2]
  refine ⟨?_, rfl⟩
  rw [Int.mul_comm]; omega
theorem Xc.pos {a b : Int} {L : List Int} (h : Xc a b L) : ∀ c ∈ L.tail, 1 ≤ c := by
  obtain ⟨M, rfl, c, m0, m1, hg⟩ := h.parts
  exact Cp_pos c m0 (by omega)
theorem Xc.last {a b : Int} {L : List Int} (h : Xc a b L) (h1 : 1 < L.length) : 2 ≤ L.getLastD 0 := by
  obtain ⟨M, rfl, c, m0, m1, hg⟩ := h.parts
  have : 0 < a % b := by
    false_or_by_contra
    have e : a % b = 0 := by omega
    rw [e] at c
    cases c with
    | nil => simp at h1
    | cons h _ => omega
  have l := Cp_last c this m1 hg
  have ne := Cp_ne c this
  match M, ne with
  | d :: M, _ => exact l
theorem Xc.uniq {a b : Int} {L M : List Int} (h : Xc a b L) (c : Cp b a M) : M = L := Cp_uniq h.c c
def cp (L : List Int) (i : Nat) : Int := (tb (L.take (i + 1))).x
def cz (L : List Int) (i : Nat) : Int := (tb (L.take (i + 1))).z
def ce (L : List Int) (i : Nat) : Int := (tb (L.drop (i + 1))).z
theorem drop_pos {a b : Int} {L : List Int} (h : Xc a b L) (i : Nat) : ∀ c ∈ L.drop (i + 1), 1 ≤ c := fun c hc => by
  refine h.pos c ?_
  rw [← List.drop_one]
  rw [show i + 1 = 1 + i by omega, ← List.drop_drop] at hc
  exact List.mem_of_mem_drop hc
theorem take_pos {a b : Int} {L : List Int} (h : Xc a b L) (i : Nat) : ∃ T, L.take (i + 1) = a / b :: T ∧ ∀ c ∈ T, 1 ≤ c := by
  obtain ⟨M, rfl, c, m0, m1, hg⟩ := h.parts
  exact ⟨M.take i, rfl, fun d hd => Cp_pos c m0 (by omega) d (List.mem_of_mem_take hd)⟩
/-- how far the fraction is -/
theorem Xc.far {a b : Int} {L : List Int} (h : Xc a b L) (i : Nat) : (a * cz L i - cp L i * b).natAbs = (ce L i).natAbs ∧ b = cz L i * (LW.tb (L.drop (i + 1))).x + (LW.tb (L.take (i + 1))).w * ce L i ∧ 0 ≤ ce L i ∧ 1 ≤ cz L i ∧ 0 ≤ (LW.tb (L.take (i + 1))).w ∧ 1 ≤ (LW.tb (L.drop (i + 1))).x ∧ Int.gcd (cp L i) (cz L i) = 1 := by
  obtain ⟨hx, hz⟩ := h.tb
  obtain ⟨d1, d2, d3, d4⟩ := pos_all _ (drop_pos h i)
  obtain ⟨T, hT, pT⟩ := take_pos h i
  obtain ⟨t1, t2, t3, t4⟩ := pos_all _ pT
  have e := tb_app (L.drop (i + 1)) (L.take (i + 1))
  rw [List.take_append_drop] at e
  have det := tb_det (L.take (i + 1))
  rw [e] at hx hz
  dsimp only at hx hz
  unfold cz cp ce
  have e2 : a * (LW.tb (L.take (i + 1))).z - (LW.tb (L.take (i + 1))).x * b = -(((LW.tb (L.take (i + 1))).x * (LW.tb (L.take (i + 1))).w - (LW.tb (L.take (i + 1))).y * (LW.tb (L.take (i + 1))).z) * (LW.tb (L.drop (i + 1))).z) := by
    rw [← hx, ← hz]; grind
  refine ⟨?_, by rw [← hz], d3, ?_, ?_, d1, ?_⟩
  · rw [e2, det]
    split <;> omega
  · rw [hT, tb_cons]; exact t1
  · rw [hT, tb_cons]; exact t2
  · have hd : (Int.gcd (LW.tb (L.take (i + 1))).x (LW.tb (L.take (i + 1))).z : Int) ∣ (LW.tb (L.take (i + 1))).x * (LW.tb (L.take (i + 1))).w - (LW.tb (L.take (i + 1))).y * (LW.tb (L.take (i + 1))).z :=
      Int.dvd_sub (Int.dvd_trans (Int.gcd_dvd_left ..) (Int.dvd_mul_right ..)) (Int.dvd_trans (Int.gcd_dvd_right ..) (Int.dvd_mul_left ..))
    rw [det] at hd
    have : (Int.gcd (LW.tb (L.take (i + 1))).x (LW.tb (L.take (i + 1))).z : Int) ∣ 1 := by
      split at hd
      · exact hd
      · exact (Int.dvd_neg (b := 1)).mp hd
    have := Int.le_of_dvd (by decide) this
    have : Int.gcd (LW.tb (L.take (i + 1))).x (LW.tb (L.take (i + 1))).z ≠ 0 := fun z => by
      rw [Int.gcd_eq_zero_iff] at z
      rw [z.1, z.2] at det
      rw [Int.zero_mul, Int.mul_zero] at det
      split at det <;> omega
    omega
theorem Xc.step {a b : Int} {L : List Int} (h : Xc a b L) {i : Nat} (hi : i + 1 < L.length) : ∃ c w, 1 ≤ c ∧ 0 ≤ w ∧ cz L (i + 1) = cz L i * c + w ∧ b = cz L (i + 1) * ce L i + cz L i * ce L (i + 1) ∧ (w = 0 → i = 0) ∧ c = L.getD (i + 1) 0 ∧ (0 < i → w = cz L (i - 1)) ∧ ce L i = c * ce L (i + 1) + (LW.tb (L.drop (i + 2))).w * 0 + (ce L i - c * ce L (i + 1)) ∧ (LW.tb (L.drop (i + 2))).x = ce L i ∧ (LW.tb (L.take (i + 2))).w = cz L i := by
  have et : L.take (i + 2) = L.take (i + 1) ++ [L[i + 1]] := by rw [List.take_succ_eq_append_getElem hi]
  have ed : L.drop (i + 1) = L[i + 1] :: L.drop (i + 2) := by rw [← List.getElem_cons_drop]
  have wz : (LW.tb (L.take (i + 2))).w = cz L i := by rw [et, tb_snoc]; rfl
  have xz : (LW.tb (L.drop (i + 2))).x = ce L i := by unfold ce; rw [ed, tb_cons]
  obtain ⟨f1, f2, f3, f4, f5, f6, f7⟩ := h.far i
  obtain ⟨g1, g2, g3, g4, g5, g6, g7⟩ := h.far (i + 1)
  refine ⟨L[i + 1], (LW.tb (L.take (i + 1))).w, drop_pos h i _ (by rw [ed]; exact List.mem_cons_self ..), f5, ?_, ?_, ?_, ?_, ?_, by omega, xz, wz⟩
  · unfold cz
    rw [show i + 1 + 1 = i + 2 from rfl, et, tb_snoc]
  · rw [show i + 1 + 1 = i + 2 from rfl, xz, wz] at g2
    exact g2
  · intro hw
    false_or_by_contra
    obtain ⟨j, rfl⟩ : ∃ j, i = j + 1 := ⟨i - 1, by omega⟩
    have : (LW.tb (L.take (j + 2))).w = cz L j := by
      rw [List.take_succ_eq_append_getElem (by omega), tb_snoc]; rfl
    have f := (h.far j).2.2.2.1
    rw [show j + 1 + 1 = j + 2 from rfl, this] at hw
    omega
  · rw [List.getD_eq_getElem?_getD, List.getElem?_eq_getElem hi]; rfl
  · intro h0
    obtain ⟨j, rfl⟩ : ∃ j, i = j + 1 := ⟨i - 1, by omega⟩
    rw [show j + 1 + 1 = j + 2 from rfl, List.take_succ_eq_append_getElem (by omega), tb_snoc]; rfl
def pt2 (b : Int) (L : List Int) (i : Nat) : Bool := decide (2 * (cz L i * ce L i) < b)
def pt5 (b : Int) (L : List Int) (i : Nat) : Bool := decide (5 * (cz L i * ce L i) * (cz L i * ce L i) < b * b)
theorem ce_last {L : List Int} {m : Nat} (h : L.length ≤ m + 1) : ce L m = 0 := by
  unfold ce
  rw [List.drop_eq_nil_of_le h]; rfl
theorem pt_last {a b : Int} {L : List Int} (h : Xc a b L) {m : Nat} (hm : L.length ≤ m + 1) : pt2 b L m = true ∧ pt5 b L m = true := by
  have b0 := h.b0
  unfold pt2 pt5
  rw [ce_last hm, Int.mul_zero]
  have := Int.mul_pos b0 b0
  exact ⟨decide_eq_true (by omega), decide_eq_true (by omega)⟩
theorem sq_le {u v b : Int} (b0 : 0 < b) (h : (u * u + v * v) * b ≤ 2 * (u * v) * b) : u = v := by
  have := Int.le_of_mul_le_mul_right h b0
  have e : (u - v) * (u - v) ≤ 0 := by grind
  have : u - v = 0 := by
    false_or_by_contra
    rename_i c
    have : 0 < (u - v) * (u - v) := by
      rcases Int.lt_or_gt_of_ne c with q | q
      · exact Int.mul_pos_of_neg_of_neg q q
      · exact Int.mul_pos q q
    omega
  omega
theorem two_near {a b : Int} {L : List Int} (h : Xc a b L) {i : Nat} (hi : i + 1 < L.length) : pt2 b L i = true ∨ pt2 b L (i + 1) = true := by
  unfold pt2
  rw [decide_eq_true_eq, decide_eq_true_eq]
  false_or_by_contra
  rename_i hn
  have b0 := h.b0
  obtain ⟨c, w, c1, w0, hv, hb, hw, hc, _, _, hx, hz⟩ := h.step hi
  obtain ⟨f1, f2, f3, f4, f5, f6, f7⟩ := h.far i
  obtain ⟨g1, g2, g3, g4, g5, g6, g7⟩ := h.far (i + 1)
  generalize cz L i = u at *
  generalize cz L (i + 1) = v at *
  have hE : b ≤ 2 * (u * ce L i) := by omega
  have hF : b ≤ 2 * (v * ce L (i + 1)) := by omega
  have uv : u = v := by
    refine sq_le b0 ?_
    have e1 := Int.mul_le_mul_of_nonneg_right hE (Int.mul_nonneg (show 0 ≤ v by omega) (show 0 ≤ v by omega))
    have e2 := Int.mul_le_mul_of_nonneg_right hF (Int.mul_nonneg (show 0 ≤ u by omega) (show 0 ≤ u by omega))
    have e3 : 2 * (u * v) * b = 2 * (u * ce L i) * (v * v) + 2 * (v * ce L (i + 1)) * (u * u) := by
      rw [hb]; grind
    rw [e3]
    grind
  subst uv
  have hc1 : c = 1 ∧ w = 0 := by
    have e := Int.mul_le_mul_of_nonneg_left c1 (show 0 ≤ u by omega)
    have : c = 1 := by
      false_or_by_contra
      have e := Int.mul_le_mul_of_nonneg_left (show 2 ≤ c by omega) (show 0 ≤ u by omega)
      omega
    refine ⟨this, ?_⟩
    rw [this] at hv
    omega
  have hi0 := hw hc1.2
  subst hi0
  have hu : u * (2 * ce L 0) ≥ b := by grind
  have EF : ce L 0 = ce L 1 := by
    have e1 : u * (ce L 0 + ce L 1) = b := by rw [hb]; grind
    have q1 : u * (ce L 0 + ce L 1) ≤ u * (2 * ce L 0) := by omega
    have q2 : u * (ce L 0 + ce L 1) ≤ u * (2 * ce L 1) := by rw [e1]; grind
    have := Int.le_of_mul_le_mul_left q1 (by omega)
    have := Int.le_of_mul_le_mul_left q2 (by omega)
    omega
  have ls := h.last (by omega)
  by_cases hl : L.length = 2
  · have : L.getLastD 0 = L.getD 1 0 := by
      match L, hl with
      | [x, y], _ => rfl
    rw [show (0 : Nat) + 1 = 1 from rfl] at hc
    have := hc1.1
    omega
  · have ne : L.drop 2 ≠ [] := fun z => by
      have := congrArg List.length z
      rw [List.length_drop] at this
      simp at this; omega
    obtain ⟨p1, p2, p3⟩ := chn_pos (N := L.drop 2) ⟨ne, drop_pos h 1⟩
    have := p3 (by
      have : (LW.tb (L.drop 2)).z = ce L 1 := rfl
      rw [this, ← EF]; exact hx)
    have l2 : L.getLastD 0 = 1 := by
      match L, hl, hi with
      | x :: y :: T, _, _ =>
        have : T = [1] := this
        subst this
        rfl
    omega
theorem five_step {u v E F b : Int} (u0 : 1 ≤ u) (uv : u ≤ v) (E0 : 0 ≤ E) (F0 : 0 ≤ F) (b0 : 0 < b) (hb : b = v * E + u * F) (hE : b * b ≤ 5 * (u * E) * (u * E)) (hF : b * b ≤ 5 * (v * F) * (v * F)) : v * v ≤ u * u + u * v := by
  generalize hX : u * E = X at *
  generalize hY : v * F = Y at *
  have X0 : 0 ≤ X := by rw [← hX]; exact Int.mul_nonneg (by omega) E0
  have Y0 : 0 ≤ Y := by rw [← hY]; exact Int.mul_nonneg (by omega) F0
  have bb := Int.mul_pos b0 b0
  have XY : b * b ≤ 5 * (X * Y) := by
    false_or_by_contra
    rename_i c
    have c : 5 * (X * Y) < b * b := by omega
    have XY0 := Int.mul_nonneg X0 Y0
    have h1 : (b * b) * (b * b) ≤ (5 * X * X) * (5 * Y * Y) := Int.mul_le_mul hE hF (by omega) (Int.mul_nonneg (by omega) X0)
    have h2 : (5 * (X * Y)) * (5 * (X * Y)) < (b * b) * (b * b) := by
      have q1 : (5 * (X * Y)) * (5 * (X * Y)) ≤ (5 * (X * Y)) * (b * b) := Int.mul_le_mul_of_nonneg_left (by omega) (by omega)
      have q2 : (5 * (X * Y)) * (b * b) < (b * b) * (b * b) := Int.mul_lt_mul_of_pos_right c bb
      omega
    have h3 : (5 * X * X) * (5 * Y * Y) = (5 * (X * Y)) * (5 * (X * Y)) := by grind
    omega
  have vv : 0 ≤ v * v := Int.mul_nonneg (by omega) (by omega)
  have uu : 0 ≤ u * u := Int.mul_nonneg (by omega) (by omega)
  have e : u * v * b = X * (v * v) + Y * (u * u) := by rw [hb, ← hX, ← hY]; grind
  have k1 := Int.mul_le_mul_of_nonneg_right hE (Int.mul_nonneg vv vv)
  have k2 := Int.mul_le_mul_of_nonneg_right hF (Int.mul_nonneg uu uu)
  have k3 := Int.mul_le_mul_of_nonneg_right XY (Int.mul_nonneg uu vv)
  have e2 : 5 * ((u * v) * (u * v)) * (b * b) = 5 * X * X * (v * v * (v * v)) + 5 * Y * Y * (u * u * (u * u)) + 2 * (5 * (X * Y) * (u * u * (v * v))) := by
    have : 5 * ((u * v) * (u * v)) * (b * b) = 5 * ((u * v * b) * (u * v * b)) := by grind
    rw [this, e]; grind
  have e3 : (u * u + v * v) * (u * u + v * v) * (b * b) ≤ 5 * ((u * v) * (u * v)) * (b * b) := by
    rw [e2]
    have : (u * u + v * v) * (u * u + v * v) * (b * b) = b * b * (v * v * (v * v)) + b * b * (u * u * (u * u)) + 2 * (b * b * (u * u * (v * v))) := by grind
    rw [this]; omega
  have e4 := Int.le_of_mul_le_mul_right e3 bb
  false_or_by_contra
  rename_i c
  have q1 : 0 < v * v - u * u - u * v := by omega
  have uv1 := Int.mul_pos (show 0 < u by omega) (show 0 < v by omega)
  have q2 : 0 < v * v - u * u + u * v := by omega
  have := Int.mul_pos q1 q2
  have : (v * v - u * u - u * v) * (v * v - u * u + u * v) = (u * u + v * v) * (u * u + v * v) - 5 * ((u * v) * (u * v)) := by grind
  omega
theorem golden {u v : Int} (u0 : 1 ≤ u) (g : Int.gcd v u = 1) : v * v ≠ u * u + u * v := fun h => by
  have d : u ∣ v * v := ⟨u + v, by rw [h]; grind⟩
  have d1 : u ∣ 1 := by
    have h1 : u ∣ v := by
      have hco : Nat.Coprime u.natAbs v.natAbs := by rw [Nat.Coprime, Nat.gcd_comm]; exact g
      have d2 := Int.natAbs_dvd_natAbs.mpr d
      rw [Int.natAbs_mul] at d2
      exact Int.natAbs_dvd_natAbs.mp (Nat.Coprime.dvd_of_dvd_mul_left hco d2)
    have := Int.dvd_coe_gcd h1 (Int.dvd_refl u)
    rw [g] at this
    exact this
  have := Int.le_of_dvd (by decide) d1
  have : u = 1 := by omega
  subst this
  have e : v * (v - 1) = 1 := by grind
  have d : v ∣ 1 := ⟨v - 1, e.symm⟩
  have h1 := Int.le_of_dvd (by decide) d
  have h2 : -v ∣ 1 := (Int.neg_dvd).mpr d
  have h3 := Int.le_of_dvd (by decide) h2
  have : v = 1 ∨ v = 0 ∨ v = -1 := by omega
  rcases this with rfl | rfl | rfl <;> omega
theorem three_near {a b : Int} {L : List Int} (h : Xc a b L) {i : Nat} (h0 : 0 < i) (hi : i + 1 < L.length) : pt5 b L (i - 1) = true ∨ pt5 b L i = true ∨ pt5 b L (i + 1) = true := by
  obtain ⟨j, rfl⟩ : ∃ j, i = j + 1 := ⟨i - 1, by omega⟩
  rw [Nat.add_sub_cancel]
  unfold pt5
  rw [decide_eq_true_eq, decide_eq_true_eq, decide_eq_true_eq]
  false_or_by_contra
  have b0 := h.b0
  obtain ⟨c, s, c1, s0, hv, hb, _, _, _, _, _, hz⟩ := h.step (i := j) (by omega)
  obtain ⟨d, t, d1, t0, hw, hb2, _, _, ht, _, _, _⟩ := h.step (i := j + 1) hi
  have ht := ht (by omega)
  rw [Nat.add_sub_cancel] at ht
  obtain ⟨_, _, f3, f4, _, _, _⟩ := h.far j
  obtain ⟨_, _, g3, g4, _, _, _⟩ := h.far (j + 1)
  obtain ⟨_, _, k3, k4, _, _, _⟩ := h.far (j + 1 + 1)
  have gg : Int.gcd (cz L (j + 1)) (cz L j) = 1 := by
    have det := tb_det (L.take (j + 2))
    rw [hz] at det
    have hd : (Int.gcd (LW.tb (L.take (j + 2))).z (cz L j) : Int) ∣ (LW.tb (L.take (j + 2))).x * cz L j - (LW.tb (L.take (j + 2))).y * (LW.tb (L.take (j + 2))).z :=
      Int.dvd_sub (Int.dvd_trans (Int.gcd_dvd_right ..) (Int.dvd_mul_left ..)) (Int.dvd_trans (Int.gcd_dvd_left ..) (Int.dvd_mul_left ..))
    rw [det] at hd
    have h1 : (Int.gcd (LW.tb (L.take (j + 2))).z (cz L j) : Int) ∣ 1 := by
      split at hd
      · exact hd
      · exact (Int.dvd_neg (b := 1)).mp hd
    have h2 := Int.le_of_dvd (by decide) h1
    have h3 : (Int.gcd (LW.tb (L.take (j + 2))).z (cz L j)) ≠ 0 := fun z => by
      rw [Int.gcd_eq_zero_iff] at z
      omega
    show Int.gcd (LW.tb (L.take (j + 2))).z (cz L j) = 1
    omega
  have uv : cz L j ≤ cz L (j + 1) := by
    have := Int.mul_le_mul_of_nonneg_left c1 (show 0 ≤ cz L j by omega)
    omega
  have vw : cz L j + cz L (j + 1) ≤ cz L (j + 1 + 1) := by
    have := Int.mul_le_mul_of_nonneg_left d1 (show 0 ≤ cz L (j + 1) by omega)
    omega
  have s1 := five_step f4 uv f3 g3 b0 hb (by omega) (by omega)
  have s2 := five_step g4 (by omega) g3 k3 b0 hb2 (by omega) (by omega)
  generalize cz L j = u at *
  generalize cz L (j + 1) = v at *
  generalize cz L (j + 1 + 1) = w at *
  refine golden f4 gg ?_
  have e1 : (u + v) * u ≤ w * (w - v) := Int.mul_le_mul (by omega) (by omega) (by omega) (by omega)
  have e2 : w * (w - v) = w * w - v * w := by grind
  have e3 : (u + v) * u = u * u + u * v := by grind
  omega
end LW
set_option Elab.async false
set_option linter.all false
set_option maxRecDepth 100000
set_option maxHeartbeats 1000000
/-! plain mathematics for k77: Legendre's numbers -/
namespace LW
open MM PySem
/-- both chains of a fraction, with any head -/
structure Ch (p q : Int) (N : List Int) : Prop where
  ne : N ≠ []
  pos : ∀ c ∈ N.tail, 1 ≤ c
  x : (tb N).x = p
  z : (tb N).z = q
theorem pos_le : ∀ N : List Int, (∀ a ∈ N, 1 ≤ a) → (tb N).z ≤ (tb N).x ∧ (tb N).w ≤ (tb N).z ∨ N = []
  | [], _ => .inr rfl
  | [a], h => by
    have := h a (by simp)
    left; simp [tb]; omega
  | a :: b :: N, h => by
    left
    obtain ⟨h1, h2, h3, h4⟩ := pos_all (b :: N) fun c hc => h c (List.mem_cons_of_mem _ hc)
    have ha := h a (List.mem_cons_self ..)
    have e1 := Int.mul_le_mul_of_nonneg_right ha (show 0 ≤ (tb (b :: N)).x by omega)
    rw [tb_cons a]
    dsimp only
    refine ⟨by omega, ?_⟩
    have : (tb (b :: N)).y ≤ (tb (b :: N)).x := by
      rcases pos_ley (b :: N) fun c hc => h c (List.mem_cons_of_mem _ hc) with g
      exact g.1
    exact this
where
  pos_ley : ∀ N : List Int, (∀ a ∈ N, 1 ≤ a) → (tb N).y ≤ (tb N).x ∧ (N ≠ [] → (tb N).w ≤ (tb N).z)
  | [], _ => by simp [tb]
  | a :: N, h => by
    obtain ⟨g1, g2⟩ := pos_ley N fun c hc => h c (List.mem_cons_of_mem _ hc)
    obtain ⟨h1, h2, h3, h4⟩ := pos_all N fun c hc => h c (List.mem_cons_of_mem _ hc)
    have ha := h a (List.mem_cons_self ..)
    rw [tb_cons a]
    dsimp only
    refine ⟨?_, fun _ => g1⟩
    by_cases hN : N = []
    · subst hN; simp [tb]; omega
    · have := g2 hN
      have := Int.mul_le_mul_of_nonneg_left g1 (show 0 ≤ a by omega)
      omega
theorem Ch.uniq {p q : Int} {L N : List Int} (X : Xc p q L) (h : Ch p q N) : N = L ∨ N = lng L := by
  obtain ⟨M, hL, c, m0, m1, hg⟩ := X.parts
  have q0 := X.b0
  match N, h with
  | [], h => exact absurd rfl h.ne
  | [a], h =>
    have hx := h.x
    have hz := h.z
    simp [tb] at hx hz
    subst hz
    have e : p % 1 = 0 := by omega
    rw [e] at c
    left
    cases c with
    | nil => rw [hL]; simp; omega
    | cons h _ => omega
  | a :: b :: N', h =>
    have hx := h.x
    have hz := h.z
    have hp : ∀ c ∈ b :: N', 1 ≤ c := h.pos
    rw [tb_cons a] at hx hz
    dsimp only at hx hz
    have k := chn_pos (N := b :: N') ⟨by simp, hp⟩
    obtain ⟨k1, k2, k3⟩ := k
    by_cases e : (tb (b :: N')).x = (tb (b :: N')).z
    · have e1 := k3 e
      rw [e1] at hx hz
      simp [tb] at hx hz
      subst hz
      have e : p % 1 = 0 := by omega
      rw [e] at c
      right
      rw [e1]
      cases c with
      | nil => rw [hL]; unfold lng; simp; omega
      | cons h _ => omega
    · have hlt : (tb (b :: N')).z < q := by omega
      have ea : p / q = a := by
        have e2 : p = (tb (b :: N')).z + q * a := by rw [← hx, hz, Int.mul_comm a q]; omega
        rw [e2, Int.add_mul_ediv_left _ _ (by omega), Int.ediv_eq_zero_of_lt (by omega) hlt]; omega
      have em : p % q = (tb (b :: N')).z := by
        have e2 : p = (tb (b :: N')).z + q * a := by rw [← hx, hz, Int.mul_comm a q]; omega
        rw [e2, Int.add_mul_emod_self_left, Int.emod_eq_of_lt (by omega) hlt]
      rcases chn_two (N := b :: N') ⟨by simp, hp⟩ c hz em.symm m1 with e | e
      · left; rw [hL, ea, e]
      · right
        have ne : M ≠ [] := Cp_ne c (by omega)
        rw [hL, lng_cons ne, ea, e]
theorem Xc.ch {a b : Int} {L : List Int} (h : Xc a b L) : Ch a b L := ⟨h.ne, h.pos, h.tb.1, h.tb.2⟩
theorem Xc.chl {a b : Int} {L : List Int} (h : Xc a b L) : Ch a b (lng L) := by
  have ne := h.ne
  refine ⟨by unfold lng; simp, ?_, by rw [(lng_tb ne).1, h.tb.1], by rw [(lng_tb ne).2, h.tb.2]⟩
  have hp := h.pos
  have hl := h.last
  match L, ne with
  | [a], _ => intro c hc; simp [lng] at hc; omega
  | a :: b :: L, _ =>
    intro c hc
    rw [lng_cons (by simp)] at hc
    have hc : c ∈ lng (b :: L) := hc
    have l2 := hl (by simp)
    rw [show (a :: b :: L).getLastD 0 = (b :: L).getLastD 0 from rfl] at l2
    exact (lng_chn (L := b :: L) ⟨by simp, hp⟩ l2).2 c hc
/-- the chain by side: odd below, even above -/
def sid (below : Bool) (L : List Int) : List Int := if (L.length % 2 = 1) = (below = true) then L else lng L
theorem sid_ch {p q : Int} {L : List Int} (X : Xc p q L) (s : Bool) : Ch p q (sid s L) ∧ ((sid s L).length % 2 = 1 ↔ s = true) := by
  unfold sid
  have hl := lng_length X.ne
  split
  · rename_i h
    exact ⟨X.ch, by rw [h]⟩
  · rename_i h
    refine ⟨X.chl, ?_⟩
    rw [hl]
    cases s with
    | true =>
      have : ¬ L.length % 2 = 1 := fun z => h (by simp [z])
      simp; omega
    | false =>
      have : L.length % 2 = 1 := by
        false_or_by_contra
        rename_i z
        exact h (by simp [z])
      simp; omega
theorem sid_uniq {p q : Int} {L N : List Int} (X : Xc p q L) (s : Bool) (h : Ch p q N) (hs : N.length % 2 = 1 ↔ s = true) : N = sid s L := by
  have hl := lng_length X.ne
  unfold sid
  rcases Ch.uniq X h with rfl | rfl
  · rw [if_pos (by rw [hs])]
  · rw [if_neg]
    intro z
    rw [hl] at hs
    cases s with
    | true => simp at z hs; omega
    | false => simp at z hs; omega
theorem tb_det' (L : List Int) : (tb L).x * (tb L).w - (tb L).y * (tb L).z = if L.length % 2 = 1 then -1 else 1 := by
  rw [tb_det]
  split <;> split <;> omega
/-- what stands behind: T over e -/
theorem beh {a b p q : Int} {R : List Int} (h : Ch p q R) {s : Bool} (hs : R.length % 2 = 1 ↔ s = true) {e : Int} (he : e = if s = true then a * q - p * b else p * b - a * q) : ∃ T, a = p * T + (tb R).y * e ∧ b = q * T + (tb R).w * e := by
  have d := tb_det' R
  rw [h.x, h.z] at d
  cases s with
  | true =>
    rw [if_pos (hs.mpr rfl)] at d
    rw [if_pos rfl] at he
    exact ⟨-(a * (tb R).w - b * (tb R).y), by subst he; grind, by subst he; grind⟩
  | false =>
    rw [if_neg (by simp at hs; omega)] at d
    rw [if_neg (by decide)] at he
    exact ⟨a * (tb R).w - b * (tb R).y, by subst he; grind, by subst he; grind⟩
theorem gcd_behind {a b p q y w T e : Int} (h1 : a = p * T + y * e) (h2 : b = q * T + w * e) (g : Int.gcd a b = 1) : Int.gcd T e = 1 := by
  have d1 : (Int.gcd T e : Int) ∣ a := by
    rw [h1]
    exact Int.dvd_add (Int.dvd_trans (Int.gcd_dvd_left ..) (Int.dvd_mul_left ..)) (Int.dvd_trans (Int.gcd_dvd_right ..) (Int.dvd_mul_left ..))
  have d2 : (Int.gcd T e : Int) ∣ b := by
    rw [h2]
    exact Int.dvd_add (Int.dvd_trans (Int.gcd_dvd_left ..) (Int.dvd_mul_left ..)) (Int.dvd_trans (Int.gcd_dvd_right ..) (Int.dvd_mul_left ..))
  have := Int.dvd_coe_gcd d1 d2
  rw [g] at this
  have := Int.le_of_dvd (by decide) this
  have : Int.gcd T e ≠ 0 := fun z => by
    rw [Int.gcd_eq_zero_iff] at z
    obtain ⟨rfl, rfl⟩ := z
    rw [Int.mul_zero, Int.mul_zero] at h1 h2
    simp at h1 h2
    subst h1; subst h2
    simp at g
  omega
theorem Ch.app {p q a b T e : Int} {R M : List Int} (h : Ch p q R) (hM : ∀ c ∈ M, 1 ≤ c) (m1 : (tb M).x = T) (m2 : (tb M).z = e) (h1 : a = p * T + (tb R).y * e) (h2 : b = q * T + (tb R).w * e) : Ch a b (R ++ M) := by
  obtain ⟨ne, hp, hx, hz⟩ := h
  refine ⟨by simp [ne], ?_, ?_, ?_⟩
  · match R, ne with
    | r :: R, _ =>
      intro c hc
      rw [List.cons_append, List.tail_cons] at hc
      rcases List.mem_append.mp hc with hc | hc
      · exact hp c hc
      · exact hM c hc
  · rw [tb_app, hx, m1, m2]; exact h1.symm
  · rw [tb_app, hz, m1, m2]; exact h2.symm
/-- members of the rows of both chains, but the last ones -/
def inS (p q : Int) (L : List Int) : Prop := ∃ i, i + 1 < L.length ∧ p = cp L i ∧ q = cz L i
theorem pre_ch {a b : Int} {N : List Int} (h : Ch a b N) (i : Nat) : Ch (cp N i) (cz N i) (N.take (i + 1)) := by
  obtain ⟨ne, hp, hx, hz⟩ := h
  refine ⟨?_, ?_, rfl, rfl⟩
  · match N, ne with
    | n :: N, _ => simp
  · match N, ne with
    | n :: N, _ =>
      intro c hc
      rw [List.take_succ_cons, List.tail_cons] at hc
      exact hp c (List.mem_of_mem_take hc)
theorem drop_pos' {a b : Int} {N : List Int} (h : Ch a b N) (i : Nat) : ∀ c ∈ N.drop (i + 1), 1 ≤ c := by
  obtain ⟨ne, hp, hx, hz⟩ := h
  match N, ne with
  | n :: N, _ =>
    intro c hc
    rw [List.drop_succ_cons] at hc
    exact hp c (List.mem_of_mem_drop hc)
/-- a member of a chain's row: the chain by side is its beginning -/
theorem pre_side {a b : Int} {N : List Int} (h : Ch a b N) {i : Nat} (hi : i + 1 < N.length) {p q : Int} (ep : p = cp N i) (eq : q = cz N i) {L : List Int} (X : Xc p q L) {s : Bool} (hs : s = decide (p * b < a * q)) {e : Int} (he : e = if s = true then a * q - p * b else p * b - a * q) :
    sid s L = N.take (i + 1) ∧ (tb (N.drop (i + 1))).z = e ∧ a = p * (tb (N.drop (i + 1))).x + (tb (sid s L)).y * e ∧ b = q * (tb (N.drop (i + 1))).x + (tb (sid s L)).w * e := by
  have t := tb_app (N.drop (i + 1)) (N.take (i + 1))
  rw [List.take_append_drop] at t
  have hx := h.x
  have hz := h.z
  rw [t] at hx hz
  dsimp only at hx hz
  have c := pre_ch h i
  rw [← ep, ← eq] at c
  have d := tb_det' (N.take (i + 1))
  have cx := c.x
  have cz' := c.z
  rw [cx, cz'] at d
  rw [cx] at hx
  rw [cz'] at hz
  have z1 : 1 ≤ (tb (N.drop (i + 1))).z := by
    refine (chn_pos ⟨?_, drop_pos' h i⟩).1
    intro z
    have := congrArg List.length z
    rw [List.length_drop] at this
    simp at this
    omega
  have u : a * q - p * b = -((p * (tb (N.take (i + 1))).w - (tb (N.take (i + 1))).y * q) * (tb (N.drop (i + 1))).z) := by
    rw [← hx, ← hz]; grind
  rw [d] at u
  have par : (N.take (i + 1)).length % 2 = 1 ↔ s = true := by
    rw [hs, decide_eq_true_eq]
    split at u
    · rename_i g
      exact ⟨fun _ => by omega, fun _ => g⟩
    · rename_i g
      exact ⟨fun z => absurd z g, fun z => by omega⟩
  have E := sid_uniq X s c par
  rw [← E]
  have ee : (tb (N.drop (i + 1))).z = e := by
    rw [he, hs]
    by_cases g : p * b < a * q
    · rw [if_pos (decide_eq_true g)]
      split at u <;> omega
    · rw [if_neg (by rw [decide_eq_true_eq]; exact g)]
      split at u <;> omega
  exact ⟨rfl, ee, by rw [← ee]; exact hx.symm, by rw [← ee]; exact hz.symm⟩
structure Leg (a b p q : Int) (L F R : List Int) (s : Bool) (e T : Int) : Prop where
  X : Xc a b L
  Y : Xc p q F
  ne : ¬ (p = a ∧ q = b)
  hs : s = decide (p * b < a * q)
  he : e = if s = true then a * q - p * b else p * b - a * q
  hR : R = sid s F
  h1 : a = p * T + (tb R).y * e
  h2 : b = q * T + (tb R).w * e
theorem Leg.e0 {a b p q : Int} {L F R : List Int} {s : Bool} {e T : Int} (h : Leg a b p q L F R s e T) : 0 < e := by
  have hne : p * b ≠ a * q := fun z => h.ne (frac_eq7 h.Y.b0 h.X.b0 h.Y.g h.X.g z)
  rw [h.he, h.hs]
  by_cases g : p * b < a * q
  · rw [if_pos (decide_eq_true g)]; omega
  · rw [if_neg (by rw [decide_eq_true_eq]; exact g)]; omega
where
  frac_eq7 {a b u v : Int} (hb : 0 < b) (hv : 0 < v) (g1 : Int.gcd a b = 1) (g2 : Int.gcd u v = 1) (h : a * v = u * b) : a = u ∧ b = v := by
    have l := low_of (a := a) (b := b) (p := u) (q := v) hv hb g2 (by rw [h]; grind)
    rw [g1] at l
    simpa using l
theorem Leg.mk' {a b p q : Int} {L F : List Int} (X : Xc a b L) (Y : Xc p q F) (ne : ¬ (p = a ∧ q = b)) {s : Bool} (hs : s = decide (p * b < a * q)) {e : Int} (he : e = if s = true then a * q - p * b else p * b - a * q) : ∃ T, Leg a b p q L F (sid s F) s e T := by
  obtain ⟨c1, c2⟩ := sid_ch Y s
  obtain ⟨T, h1, h2⟩ := beh (a := a) (b := b) c1 c2 he
  exact ⟨T, X, Y, ne, hs, he, rfl, h1, h2⟩
theorem Leg.Tu {a b p q : Int} {L F R : List Int} {s : Bool} {e T T' : Int} (h : Leg a b p q L F R s e T) (h2 : b = q * T' + (tb R).w * e) : T' = T := by
  have := h.h2
  have : q * T' = q * T := by omega
  exact Int.eq_of_mul_eq_mul_left (by have := h.Y.b0; omega) this
theorem Leg.short {a b p q : Int} {L F R : List Int} {s : Bool} {e T : Int} (h : Leg a b p q L F R s e T) : e < T ↔ inS p q L := by
  have e0 := h.e0
  obtain ⟨c1, c2⟩ := sid_ch h.Y s
  rw [← h.hR] at c1 c2
  constructor
  · intro z
    have g := gcd_behind h.h1 h.h2 h.X.g
    obtain ⟨M, cM⟩ := Cp_ex e.toNat e T (Nat.le_refl _) (by omega)
    have XM : Xc T e M := ⟨cM, e0, g⟩
    have hM : ∀ c ∈ M, 1 ≤ c := Cp_pos cM (by omega) (by omega)
    have app := c1.app hM XM.tb.1 XM.tb.2 h.h1 h.h2
    have Mne : M ≠ [] := XM.ne
    have lst : 2 ≤ M.getLastD 0 := by
      by_cases l1 : 1 < M.length
      · exact XM.last l1
      · match M, Mne, l1 with
        | [m], _, _ =>
          have t := XM.tb
          simp [tb] at t
          show 2 ≤ m
          omega
        | m :: n :: M, _, l1 => simp at l1
    have E : R ++ M = L := by
      rcases Ch.uniq h.X app with E | E
      · exact E
      · exfalso
        have e1 : (R ++ M).getLastD 0 = M.getLastD 0 := by
          rw [List.getLastD_eq_getLast?, List.getLast?_append, List.getLastD_eq_getLast?]
          rw [List.getLast?_eq_some_getLast Mne]; rfl
        have e2 : (lng L).getLastD 0 = 1 := by unfold lng; simp [List.getLastD_eq_getLast?]
        rw [E, e2] at e1
        omega
    have R1 : 0 < R.length := List.length_pos_iff.mpr c1.ne
    have M1 : 0 < M.length := List.length_pos_iff.mpr Mne
    refine ⟨R.length - 1, by rw [← E, List.length_append]; omega, ?_, ?_⟩
    · unfold cp
      rw [← E, show R.length - 1 + 1 = R.length by omega, List.take_left, c1.x]
    · unfold cz
      rw [← E, show R.length - 1 + 1 = R.length by omega, List.take_left, c1.z]
  · rintro ⟨i, hi, ep, eq⟩
    obtain ⟨k1, k2, k3, k4⟩ := pre_side h.X.ch hi ep eq h.Y h.hs h.he
    rw [← h.hR] at k1 k3 k4
    have tt := h.Tu k4
    have dne : L.drop (i + 1) ≠ [] := by
      intro z
      have := congrArg List.length z
      rw [List.length_drop] at this
      simp at this
      omega
    obtain ⟨g1, g2, g3⟩ := chn_pos ⟨dne, drop_pos' h.X.ch i⟩
    rw [k2, tt] at g2 g3
    false_or_by_contra
    have := g3 (by omega)
    have l := h.X.last (by omega)
    have e1 : L.getLastD 0 = 1 := by
      have : L = L.take (i + 1) ++ [1] := by rw [← this, List.take_append_drop]
      rw [this]; simp [List.getLastD_eq_getLast?]
    omega
theorem lng_take {L : List Int} {i : Nat} (h : i + 1 < L.length) : (lng L).take (i + 1) = L.take (i + 1) := by
  unfold lng
  rw [List.take_append_of_le_length (by rw [List.length_dropLast]; omega), List.dropLast_eq_take, List.take_take, Nat.min_eq_left (by omega)]
theorem Leg.long {a b p q : Int} {L F R : List Int} {s : Bool} {e T : Int} (h : Leg a b p q L F R s e T) : e = T ↔ inS p q (lng L) ∧ ¬ inS p q L := by
  have e0 := h.e0
  obtain ⟨c1, c2⟩ := sid_ch h.Y s
  rw [← h.hR] at c1 c2
  have ll := lng_length h.X.ne
  have L0 : 0 < L.length := List.length_pos_iff.mpr h.X.ne
  have l1 : lng L = (L.dropLast ++ [L.getLastD 0 - 1]) ++ [1] := by unfold lng; simp
  constructor
  · intro z
    refine ⟨?_, fun w => by have := h.short.mpr w; omega⟩
    have g := gcd_behind h.h1 h.h2 h.X.g
    rw [← z, Int.gcd_self] at g
    have e1 : e = 1 := by omega
    have app := c1.app (M := [1]) (T := T) (e := e) (a := a) (b := b) (fun c hc => by simp at hc; omega) (by simp [tb]; omega) (by simp [tb]; omega) h.h1 h.h2
    rcases Ch.uniq h.X app with E | E
    · exfalso
      have R1 : 0 < R.length := List.length_pos_iff.mpr c1.ne
      have := h.X.last (by rw [← E, List.length_append]; simp; omega)
      rw [← E] at this
      simp [List.getLastD_eq_getLast?] at this
    · have R1 : 0 < R.length := List.length_pos_iff.mpr c1.ne
      refine ⟨R.length - 1, by rw [← E, List.length_append]; simp; omega, ?_, ?_⟩
      · unfold cp
        rw [← E, show R.length - 1 + 1 = R.length by omega, List.take_left, c1.x]
      · unfold cz
        rw [← E, show R.length - 1 + 1 = R.length by omega, List.take_left, c1.z]
  · rintro ⟨⟨i, hi, ep, eq⟩, no⟩
    by_cases hi2 : i + 1 < L.length
    · exfalso
      refine no ⟨i, hi2, ?_, ?_⟩
      · rw [ep]; unfold cp; rw [lng_take hi2]
      · rw [eq]; unfold cz; rw [lng_take hi2]
    · have hie : i + 1 = L.length := by omega
      obtain ⟨k1, k2, k3, k4⟩ := pre_side h.X.chl hi ep eq h.Y h.hs h.he
      rw [← h.hR] at k1 k3 k4
      have tt := h.Tu k4
      have dd : (lng L).drop (i + 1) = [1] := by
        rw [l1, List.drop_left' (by simp; omega)]
      rw [dd] at k2 tt
      simp [tb] at k2 tt
      omega
/-- nearer than 2: a fraction of the chain -/
theorem Leg.two {a b p q : Int} {L F R : List Int} {s : Bool} {e T : Int} (h : Leg a b p q L F R s e T) (g : 2 * (q * e) < b) : e < T := by
  have e0 := h.e0
  have q0 := h.Y.b0
  obtain ⟨c1, c2⟩ := sid_ch h.Y s
  rw [← h.hR] at c1 c2
  have wz : (tb R).w ≤ q := by
    rw [← c1.z]
    obtain ⟨ne, hp, _, _⟩ := c1
    match R, ne with
    | r :: R, _ =>
      rw [tb_cons]
      dsimp only
      exact (pos_le.pos_ley R hp).1
  have h2 := h.h2
  have := Int.mul_le_mul_of_nonneg_right wz (show 0 ≤ e by omega)
  have : q * e < q * T := by omega
  exact Int.lt_of_mul_lt_mul_left this (by omega)
/-- how large: the number is T over e -/
theorem Ch.w {p q : Int} {R : List Int} (h : Ch p q R) : 0 ≤ (tb R).w ∧ (tb R).w ≤ q := by
  rw [← h.z]
  obtain ⟨ne, hp, _, _⟩ := h
  match R, ne with
  | r :: R, _ =>
    obtain ⟨h1, h2, h3, h4⟩ := pos_all R hp
    rw [tb_cons]
    dsimp only
    exact ⟨h2, (pos_le.pos_ley R hp).1⟩
theorem Ch.head {p q : Int} {R : List Int} (h : Ch p q R) : R.headD 0 * q ≤ p ∧ p ≤ (R.headD 0 + 1) * q := by
  rw [← h.z, ← h.x]
  obtain ⟨ne, hp, _, _⟩ := h
  match R, ne with
  | r :: R, _ =>
    obtain ⟨h1, h2, h3, h4⟩ := pos_all R hp
    rw [tb_cons]
    dsimp only [List.headD_cons]
    by_cases hR : R = []
    · subst hR; simp [tb]; omega
    · have := (chn_pos ⟨hR, hp⟩).2.1
      rw [Int.add_mul]; omega
end LW
set_option Elab.async false
set_option linter.all false
set_option maxRecDepth 100000
set_option maxHeartbeats 1000000
/-! plain mathematics for k14: halves, Stern's way, chains compared and moved -/
namespace LW
open MM PySem
/-- a chain that is short: only with one number the last may be anything -/
theorem Ch.short {p q : Int} {L N : List Int} (X : Xc p q L) (h : Ch p q N) (hl : 1 < N.length → 2 ≤ N.getLastD 0) : N = L := by
  rcases Ch.uniq X h with e | e
  · exact e
  · exfalso
    have l := lng_length X.ne
    have L0 : 0 < L.length := List.length_pos_iff.mpr X.ne
    have h2 := hl (by rw [e, l]; omega)
    have e2 : (lng L).getLastD 0 = 1 := by unfold lng; simp [List.getLastD_eq_getLast?]
    rw [e, e2] at h2
    omega
theorem Xc.ex {p q : Int} (q0 : 0 < q) (g : Int.gcd p q = 1) : ∃ L, Xc p q L := by
  obtain ⟨L, c⟩ := Cp_ex q.toNat q p (Nat.le_refl _) (by omega)
  exact ⟨L, c, q0, g⟩
/-- moved by a whole number -/
theorem Xc.add {p q a c : Int} {M : List Int} (X : Xc p q (a :: M)) : Xc (p + c * q) q ((a + c) :: M) := by
  have q0 := X.b0
  obtain ⟨M', e, cm, m0, m1, hg⟩ := X.parts
  cases e
  refine ⟨?_, q0, ?_⟩
  · have h1 : (p + c * q) / q = p / q + c := Int.add_mul_ediv_right _ _ (by omega)
    have h2 : (p + c * q) % q = p % q := Int.add_mul_emod_self_right _ _ _
    rw [← h1]
    refine .cons q0 ?_
    rw [h2]
    exact cm
  · rw [Int.mul_comm, Int.gcd_add_mul_left_left]
    exact X.g
/-- turned: -x -/
def trnB (a : Int) : List Int → List Int
  | [] => []
  | d :: R => (-a - 1) :: (d + 1) :: R
def trn : List Int → List Int
  | [] => []
  | [a] => [-a]
  | a :: c :: R => if 1 < c then (if R = [] ∧ c = 2 then [-a - 1, 2] else (-a - 1) :: 1 :: (c - 1) :: R) else trnB a R
theorem trn_two (a c : Int) (R : List Int) : trn (a :: c :: R) = if 1 < c then (if R = [] ∧ c = 2 then [-a - 1, 2] else (-a - 1) :: 1 :: (c - 1) :: R) else trnB a R := rfl
theorem last_cons {a b : Int} {L : List Int} : (a :: b :: L).getLastD 0 = (b :: L).getLastD 0 := rfl
theorem last_any {a b : Int} : ∀ {R : List Int}, R ≠ [] → (a :: R).getLastD 0 = (b :: R).getLastD 0
  | [], h => absurd rfl h
  | _ :: _, _ => rfl
theorem Xc.trn {p q : Int} {L : List Int} (X : Xc p q L) : Xc (-p) q (trn L) := by
  have q0 := X.b0
  obtain ⟨N, Y⟩ := Xc.ex (p := -p) q0 (by rw [Int.neg_gcd]; exact X.g)
  have hx := X.tb.1
  have hz := X.tb.2
  have hp := X.pos
  have hl := X.last
  suffices h : LW.trn L = N by rw [h]; exact Y
  match L, X.ne with
  | [a], _ =>
    simp [LW.tb] at hx hz
    exact Ch.short Y ⟨by simp [LW.trn], by simp [LW.trn], by simp [LW.trn, LW.tb]; omega, by simp [LW.trn, LW.tb]; omega⟩ (by simp [LW.trn])
  | a :: c :: R, _ =>
    have c1 := hp c (by simp)
    have hl := hl (by simp)
    rw [last_cons] at hl
    have hR : ∀ d ∈ R, 1 ≤ d := fun d hd => hp d (by simp [hd])
    rw [tb_cons, tb_cons] at hx hz
    dsimp only at hx hz
    rw [trn_two]
    by_cases hc : 1 < c
    · rw [if_pos hc]
      by_cases h2 : R = [] ∧ c = 2
      · rw [if_pos h2]
        obtain ⟨rfl, rfl⟩ := h2
        simp [LW.tb] at hx hz
        refine Ch.short Y ⟨by simp, by simp, by simp [LW.tb]; omega, by simp [LW.tb]; omega⟩ (by simp)
      · rw [if_neg h2]
        refine Ch.short Y ⟨by simp, ?_, ?_, ?_⟩ fun _ => ?_
        · intro d hd
          simp only [List.tail_cons, List.mem_cons] at hd
          rcases hd with rfl | rfl | hd
          · omega
          · omega
          · exact hR d hd
        · rw [tb_cons, tb_cons, tb_cons]
          dsimp only
          grind
        · rw [tb_cons, tb_cons, tb_cons]
          dsimp only
          grind
        · rw [last_cons, last_cons]
          by_cases hr : R = []
          · subst hr
            have : c ≠ 2 := fun z => h2 ⟨rfl, z⟩
            show 2 ≤ c - 1
            omega
          · rw [last_any (b := c) hr]
            exact hl
    · rw [if_neg hc]
      obtain rfl : c = 1 := by omega
      match R with
      | [] => have : (2 : Int) ≤ 1 := hl
              omega
      | d :: R =>
        show (-a - 1) :: (d + 1) :: R = N
        have d1 := hR d (by simp)
        rw [last_cons] at hl
        rw [tb_cons] at hx hz
        dsimp only at hx hz
        refine Ch.short Y ⟨by simp, ?_, ?_, ?_⟩ fun _ => ?_
        · intro e he
          simp only [List.tail_cons, List.mem_cons] at he
          rcases he with rfl | he
          · omega
          · exact hR e (by simp [he])
        · rw [tb_cons, tb_cons]
          dsimp only
          grind
        · rw [tb_cons, tb_cons]
          dsimp only
          grind
        · rw [last_cons]
          by_cases hr : R = []
          · subst hr
            have : 2 ≤ d := hl
            show 2 ≤ d + 1
            omega
          · rw [last_any (b := d) hr]
            exact hl
/-- turned over: 1 / x -/
def ovr (L : List Int) : List Int := if L = [1] then L else if L.headD 0 = 0 then L.tail else 0 :: L
theorem Xc.ovr {p q : Int} {L : List Int} (X : Xc p q L) (p0 : 0 < p) : Xc q p (ovr L) := by
  have q0 := X.b0
  obtain ⟨M, hL, cm, m0, m1, hg⟩ := X.parts
  have g2 : Int.gcd q p = 1 := by rw [Int.gcd_comm]; exact X.g
  have hd : L.headD 0 = p / q := by rw [hL]; rfl
  unfold LW.ovr
  by_cases h1 : L = [1]
  · rw [if_pos h1]
    have hx := X.tb.1
    have hz := X.tb.2
    rw [h1] at hx hz
    simp [LW.tb] at hx hz
    subst hx; subst hz
    exact X
  · rw [if_neg h1]
    by_cases h0 : L.headD 0 = 0
    · rw [if_pos h0]
      rw [hd] at h0
      have e : p % q = p := by have := Int.mul_ediv_add_emod p q; rw [h0] at this; omega
      rw [e] at cm
      rw [hL]
      exact ⟨cm, p0, g2⟩
    · rw [if_neg h0]
      rw [hd] at h0
      have d0 := Int.ediv_nonneg (show 0 ≤ p by omega) (show 0 ≤ q by omega)
      have qp : q < p := by
        false_or_by_contra
        by_cases e : p = q
        · subst e
          rw [Int.gcd_self] at g2
          have : p = 1 := by omega
          subst this
          apply h1
          rw [hL]
          cases cm with
          | nil => rfl
          | cons h _ => simp at h
        · exact h0 (Int.ediv_eq_zero_of_lt (by omega) (by omega))
      have e1 : q / p = 0 := Int.ediv_eq_zero_of_lt (by omega) qp
      have e2 : q % p = q := Int.emod_eq_of_lt (by omega) qp
      refine ⟨?_, p0, g2⟩
      rw [← e1]
      refine .cons p0 ?_
      rw [e2]
      exact X.c
/-! ### compared -/
def frst : List Int → List Int → Option Nat
  | [], [] => none
  | [], _ :: _ => some 0
  | _ :: _, [] => some 0
  | a :: L, b :: M => if a = b then (frst L M).map (· + 1) else some 0
theorem frst_none : ∀ {L M : List Int}, frst L M = none → L = M
  | [], [], _ => rfl
  | a :: L, b :: M, h => by
    unfold frst at h
    by_cases e : a = b
    · rw [if_pos e] at h
      have : frst L M = none := by
        cases q : frst L M with
        | none => rfl
        | some k => rw [q] at h; cases h
      rw [e, frst_none this]
    · rw [if_neg e] at h; cases h
theorem frst_self : ∀ L : List Int, frst L L = none
  | [] => rfl
  | a :: L => by unfold frst; rw [if_pos rfl, frst_self L]; rfl
theorem frst_some : ∀ {L M : List Int} {k : Nat}, frst L M = some k → ∃ P A B, L = P ++ A ∧ M = P ++ B ∧ P.length = k ∧ A.head? ≠ B.head?
  | [], b :: M, k, h => by cases h; exact ⟨[], [], b :: M, rfl, rfl, rfl, by simp⟩
  | a :: L, [], k, h => by cases h; exact ⟨[], a :: L, [], rfl, rfl, rfl, by simp⟩
  | a :: L, b :: M, k, h => by
    unfold frst at h
    by_cases e : a = b
    · rw [if_pos e] at h
      cases q : frst L M with
      | none => rw [q] at h; cases h
      | some j =>
        rw [q] at h
        cases h
        obtain ⟨P, A, B, h1, h2, h3, h4⟩ := frst_some q
        exact ⟨a :: P, A, B, by rw [h1]; rfl, by rw [h2, e]; rfl, by rw [List.length_cons, h3], h4⟩
    · rw [if_neg e] at h
      cases h
      exact ⟨[], a :: L, b :: M, rfl, rfl, rfl, by simp [e]⟩
/-- the value of what is left: above its head, below the next, but for a last one -/
theorem rest_bd {a : Int} {A : List Int} (hp : ∀ c ∈ A, 1 ≤ c) (hl : A ≠ [] → 2 ≤ A.getLastD 0) : 0 < (tb (a :: A)).z ∧ a * (tb (a :: A)).z ≤ (tb (a :: A)).x ∧ (tb (a :: A)).x < (a + 1) * (tb (a :: A)).z := by
  obtain ⟨h1, h2, h3, h4⟩ := pos_all A hp
  rw [tb_cons]
  dsimp only
  refine ⟨by omega, by omega, ?_⟩
  rw [Int.add_mul]
  by_cases hA : A = []
  · subst hA; simp [tb]; omega
  · obtain ⟨k1, k2, k3⟩ := chn_pos (N := A) ⟨hA, hp⟩
    have : (tb A).x ≠ (tb A).z := fun e => by
      have := k3 e
      have l := hl hA
      rw [this] at l
      have : (2 : Int) ≤ 1 := l
      omega
    omega
theorem cross_app (P A B : List Int) : (tb (P ++ A)).x * (tb (P ++ B)).z - (tb (P ++ B)).x * (tb (P ++ A)).z = ((tb P).x * (tb P).w - (tb P).y * (tb P).z) * ((tb A).x * (tb B).z - (tb B).x * (tb A).z) := by
  rw [tb_app, tb_app]
  dsimp only
  grind
theorem cmp_sgn {P A B : List Int} (hA : P ≠ [] → ∀ c ∈ A, 1 ≤ c) (hB : P ≠ [] → ∀ c ∈ B, 1 ≤ c) (tA : ∀ c ∈ A.tail, 1 ≤ c) (tB : ∀ c ∈ B.tail, 1 ≤ c) (lA : A.tail ≠ [] → 2 ≤ A.tail.getLastD 0) (lB : B.tail ≠ [] → 2 ≤ B.tail.getLastD 0) (nA : P = [] → A ≠ []) (nB : P = [] → B ≠ []) (ne : A.head? ≠ B.head?) :
    (A = [] ∨ (B ≠ [] ∧ B.headD 0 < A.headD 0) → (tb B).x * (tb A).z < (tb A).x * (tb B).z) ∧ (¬ (A = [] ∨ (B ≠ [] ∧ B.headD 0 < A.headD 0)) → (tb A).x * (tb B).z < (tb B).x * (tb A).z) := by
  match A, B with
  | [], [] => exact absurd rfl ne
  | [], b :: B =>
    have hP : P ≠ [] := fun e => nA e rfl
    have := rest_bd (a := b) (A := B) tB lB
    refine ⟨fun _ => by simp [tb] at this ⊢; omega, fun h => absurd (.inl rfl) h⟩
  | a :: A, [] =>
    have := rest_bd (a := a) (A := A) tA lA
    refine ⟨fun h => ?_, fun _ => by simp [tb] at this ⊢; omega⟩
    rcases h with h | h
    · cases h
    · exact absurd rfl h.1
  | a :: A, b :: B =>
    obtain ⟨a0, a1, a2⟩ := rest_bd (a := a) (A := A) tA lA
    obtain ⟨b0, b1, b2⟩ := rest_bd (a := b) (A := B) tB lB
    have hab : a ≠ b := fun e => ne (by rw [e]; rfl)
    have key : ∀ {a b x z u v : Int}, 0 < z → 0 < v → a * z ≤ x → u < (b + 1) * v → b < a → u * z < x * v := fun {a b x z u v} z0 v0 h1 h2 h => by
      have e1 : u * z < (b + 1) * v * z := Int.mul_lt_mul_of_pos_right h2 z0
      have e2 : a * z * v ≤ x * v := Int.mul_le_mul_of_nonneg_right h1 (by omega)
      have e3 : (b + 1) * (v * z) ≤ a * (v * z) := Int.mul_le_mul_of_nonneg_right (by omega) (Int.le_of_lt (Int.mul_pos v0 z0))
      have e4 : (b + 1) * v * z = (b + 1) * (v * z) := by grind
      have e5 : a * z * v = a * (v * z) := by grind
      omega
    refine ⟨fun h => ?_, fun h => ?_⟩
    · rcases h with h | h
      · cases h
      · exact key a0 b0 a1 b2 h.2
    · have : a < b := by
        have : ¬ b < a := fun z => h (.inr ⟨by simp, z⟩)
        omega
      exact key b0 a0 b1 a2 this
/-! ### halves and the way -/
def hlv (P : List Int) (c : Nat) : List (Int × Int) := (List.range c).map fun j : Nat => ((tb (P ++ [(j : Int) + 1])).x, (tb (P ++ [(j : Int) + 1])).z)
def wayR : List Int → List Int → List (Int × Int)
  | _, [] => []
  | P, c :: M => hlv P c.toNat ++ wayR (P ++ [c]) M
theorem hlv_len (P : List Int) (c : Nat) : (hlv P c).length = c := by unfold hlv; rw [List.length_map, List.length_range]
theorem hlv_drop {P : List Int} {c j : Nat} (h : j < c) : (hlv P c).drop j = ((tb (P ++ [(j : Int) + 1])).x, (tb (P ++ [(j : Int) + 1])).z) :: (hlv P c).drop (j + 1) := by
  rw [List.drop_eq_getElem_cons (by rw [hlv_len]; exact h)]
  congr 1
  unfold hlv
  rw [List.getElem_map, List.getElem_range]
def alh (P M : List Int) (n : Nat) : List (Int × Int) := ((List.range n).map fun i => hlv (P ++ M.take i) (M.getD i 0).toNat).flatten
theorem alh_succ (P M : List Int) (n : Nat) : alh P M (n + 1) = alh P M n ++ hlv (P ++ M.take n) (M.getD n 0).toNat := by
  unfold alh
  rw [List.range_succ, List.map_append, List.flatten_append]
  simp
theorem wayR_alh : ∀ (M P : List Int), wayR P M = alh P M M.length
  | [], P => rfl
  | c :: M, P => by
    show hlv P c.toNat ++ wayR (P ++ [c]) M = alh P (c :: M) (M.length + 1)
    rw [wayR_alh M (P ++ [c])]
    unfold alh
    rw [List.range_succ_eq_map, List.map_cons, List.flatten_cons, List.map_map]
    simp only [List.take_zero, List.append_nil, List.getD_cons_zero]
    congr 3
    funext i
    simp
/-- a place on the way -/
structure Wy (X : Int × Int) (P : List Int) (c : Int) (M : List Int) (j : Nat) : Prop where
  x : X.1 = (tb (P ++ c :: M)).x
  z : X.2 = (tb (P ++ c :: M)).z
  j : (j : Int) < c
  pos : ∀ d ∈ M, 1 ≤ d
  last : M ≠ [] → 2 ≤ M.getLastD 0
def here (P : List Int) (j : Nat) : Int × Int := ((tb (P ++ [(j : Int) + 1])).x, (tb (P ++ [(j : Int) + 1])).z)
theorem Wy.cross {X : Int × Int} {P : List Int} {c : Int} {M : List Int} {j : Nat} (h : Wy X P c M j) : ∃ d : Int, 0 ≤ d ∧ (d = 0 ↔ M = [] ∧ (j : Int) + 1 = c) ∧ X.1 * (here P j).2 - (here P j).1 * X.2 = (if P.length % 2 = 0 then 1 else -1) * d := by
  refine ⟨(c - ((j : Int) + 1)) * (tb M).x + (tb M).z, ?_, ?_, ?_⟩
  · obtain ⟨h1, h2, h3, h4⟩ := pos_all M h.pos
    have := Int.mul_nonneg (show 0 ≤ c - ((j : Int) + 1) by have := h.j; omega) (show 0 ≤ (tb M).x by omega)
    omega
  · obtain ⟨h1, h2, h3, h4⟩ := pos_all M h.pos
    have m0 := Int.mul_nonneg (show 0 ≤ c - ((j : Int) + 1) by have := h.j; omega) (show 0 ≤ (tb M).x by omega)
    constructor
    · intro e
      have e1 : (tb M).z = 0 := by omega
      have e2 : (c - ((j : Int) + 1)) * (tb M).x = 0 := by omega
      refine ⟨?_, ?_⟩
      · false_or_by_contra
        rename_i hM
        have := (chn_pos (N := M) ⟨hM, h.pos⟩).1
        omega
      · rcases Int.mul_eq_zero.mp e2 with z | z <;> omega
    · rintro ⟨rfl, e⟩
      have : c - ((j : Int) + 1) = 0 := by omega
      rw [this]; simp [tb]
  · rw [h.x, h.z]
    unfold here
    dsimp only
    rw [cross_app, tb_det, tb_cons, tb_one]
    dsimp only
    split <;> grind
theorem Wy.done {X : Int × Int} {P : List Int} {c : Int} {M : List Int} {j : Nat} (h : Wy X P c M j) : here P j = X ↔ M = [] ∧ (j : Int) + 1 = c := by
  obtain ⟨d, d0, d1, d2⟩ := h.cross
  constructor
  · intro e
    rw [e, Int.sub_self] at d2
    refine d1.mp ?_
    split at d2 <;> omega
  · rintro ⟨rfl, e⟩
    unfold here
    rw [e, ← h.x, ← h.z]
theorem Wy.side {X : Int × Int} {P : List Int} {c : Int} {M : List Int} {j : Nat} (h : Wy X P c M j) (n : here P j ≠ X) : X.1 * (here P j).2 < (here P j).1 * X.2 ↔ P.length % 2 = 1 := by
  obtain ⟨d, d0, d1, d2⟩ := h.cross
  have : d ≠ 0 := fun e => n (h.done.mpr (d1.mp e))
  split at d2 <;> omega
theorem Wy.more {X : Int × Int} {P : List Int} {c : Int} {M : List Int} {j : Nat} (h : Wy X P c M j) (l : (j : Int) + 1 < c) : Wy X P c M (j + 1) := ⟨h.x, h.z, by omega, h.pos, h.last⟩
theorem Wy.next {X : Int × Int} {P : List Int} {c d : Int} {M : List Int} {j : Nat} (h : Wy X P c (d :: M) j) : Wy X (P ++ [c]) d M 0 := by
  refine ⟨by rw [h.x]; simp, by rw [h.z]; simp, by have := h.pos d (by simp); omega, fun e he => h.pos e (by simp [he]), fun hM => ?_⟩
  have := h.last (by simp)
  match M, hM with
  | e :: M, _ => rwa [last_cons] at this
/-- the ends at a place: the one that is left, the other -/
def e1 (P : List Int) (j : Nat) : Int × Int := ((tb P).x * (j : Int) + (tb P).y, (tb P).z * (j : Int) + (tb P).w)
def e2 (P : List Int) : Int × Int := ((tb P).x, (tb P).z)
theorem here_eq (P : List Int) (j : Nat) : here P j = ((e1 P j).1 + (e2 P).1, (e1 P j).2 + (e2 P).2) := by
  unfold here e1 e2
  rw [tb_snoc]
  dsimp only
  rw [Int.mul_add, Int.mul_add, Int.mul_one, Int.mul_one]
  congr 1 <;> omega
theorem here_e1 (P : List Int) (j : Nat) : e1 P (j + 1) = here P j := by
  unfold here e1
  rw [tb_snoc]
  dsimp only
  rw [Int.natCast_add]; rfl
theorem e1_next (P : List Int) (c : Int) : e1 (P ++ [c]) 0 = e2 P := by
  unfold e1 e2
  rw [tb_snoc]
  dsimp only
  rw [Int.natCast_zero, Int.mul_zero, Int.mul_zero, Int.zero_add, Int.zero_add]
theorem e2_next (P : List Int) {c : Int} {j : Nat} (h : (j : Int) + 1 = c) : e2 (P ++ [c]) = here P j := by
  unfold e2 here
  rw [h]
def lowE (P : List Int) (j : Nat) : Int × Int := if P.length % 2 = 0 then e1 P j else e2 P
def higE (P : List Int) (j : Nat) : Int × Int := if P.length % 2 = 0 then e2 P else e1 P j
theorem here_sum (P : List Int) (j : Nat) : here P j = ((lowE P j).1 + (higE P j).1, (lowE P j).2 + (higE P j).2) := by
  rw [here_eq]
  unfold lowE higE
  split
  · rfl
  · congr 1 <;> omega
/-- the place behind this one -/
theorem Wy.go {X : Int × Int} {P : List Int} {c : Int} {M : List Int} {j : Nat} (h : Wy X P c M j) (n : here P j ≠ X) : ∃ P' c' M' j', Wy X P' c' M' j' ∧ lowE P' j' = (if P.length % 2 = 1 then lowE P j else here P j) ∧ higE P' j' = (if P.length % 2 = 1 then here P j else higE P j) ∧
    ((hlv P c.toNat).drop j ++ wayR (P ++ [c]) M = here P j :: ((hlv P' c'.toNat).drop j' ++ wayR (P' ++ [c']) M')) := by
  have hj := h.j
  by_cases l : (j : Int) + 1 < c
  · refine ⟨P, c, M, j + 1, h.more l, ?_, ?_, ?_⟩
    · unfold lowE
      rw [here_e1]
      rcases Nat.mod_two_eq_zero_or_one P.length with e | e <;> simp [e]
    · unfold higE
      rw [here_e1]
      rcases Nat.mod_two_eq_zero_or_one P.length with e | e <;> simp [e]
    · rw [hlv_drop (by omega)]; rfl
  · have l : (j : Int) + 1 = c := by omega
    match M, h, n with
    | [], h, n => exact absurd (h.done.mpr ⟨rfl, l⟩) n
    | d :: M, h, n =>
      refine ⟨P ++ [c], d, M, 0, h.next, ?_, ?_, ?_⟩
      · unfold lowE
        rw [e1_next, e2_next P l, List.length_append, List.length_singleton]
        rcases Nat.mod_two_eq_zero_or_one P.length with e | e
        · have e' : (P.length + 1) % 2 = 1 := by omega
          simp [e, e']
        · have e' : (P.length + 1) % 2 = 0 := by omega
          simp [e, e']
      · unfold higE
        rw [e1_next, e2_next P l, List.length_append, List.length_singleton]
        rcases Nat.mod_two_eq_zero_or_one P.length with e | e
        · have e' : (P.length + 1) % 2 = 1 := by omega
          simp [e, e']
        · have e' : (P.length + 1) % 2 = 0 := by omega
          simp [e, e']
      · rw [hlv_drop (by omega)]
        have e : (hlv P c.toNat).drop (j + 1) = [] := List.drop_eq_nil_of_le (by rw [hlv_len]; omega)
        rw [e]; rfl
/-- where the way begins -/
theorem way_start {p q : Int} {L : List Int} (X : Xc p q L) (p0 : 0 < p) : ∃ P c M, Wy (p, q) P c M 0 ∧ lowE P 0 = (0, 1) ∧ higE P 0 = (1, 0) ∧ wayR [] L = (hlv P c.toNat).drop 0 ++ wayR (P ++ [c]) M := by
  obtain ⟨M, hL, cm, m0, m1, hg⟩ := X.parts
  have q0 := X.b0
  have hx := X.tb.1
  have hz := X.tb.2
  have hp := X.pos
  have hl := X.last
  have d0 := Int.ediv_nonneg (show 0 ≤ p by omega) (show 0 ≤ q by omega)
  subst hL
  by_cases h0 : p / q = 0
  · match M, hp, hl with
    | [], _, _ =>
      exfalso
      rw [h0] at hx
      simp [tb] at hx
      omega
    | d :: M, hp, hl =>
      refine ⟨[p / q], d, M, ⟨hx.symm, hz.symm, by have := hp d (by simp); omega, fun e he => hp e (by simp [he]), fun hM => ?_⟩, ?_, ?_, ?_⟩
      · have := hl (by simp)
        rw [last_cons] at this
        match M, hM with
        | e :: M, _ => rwa [last_cons] at this
      · rw [h0]; rfl
      · rw [h0]; rfl
      · rw [h0]; rfl
  · refine ⟨[], p / q, M, ⟨hx.symm, hz.symm, by omega, fun e he => hp e (by simpa using he), fun hM => ?_⟩, rfl, rfl, rfl⟩
    match M, hM with
    | e :: M, _ =>
      have := hl (by simp)
      rwa [last_cons] at this
end LW
set_option Elab.async false
set_option linter.all false
set_option maxRecDepth 100000
set_option maxHeartbeats 4000000
namespace LW
open PySem PySem.Spec L2 MM
local macro_rules | `(tactic| walk_at "mm") => `(tactic| simp only [rSeq, rSet, rSetO, rRet, rRetN, rPass_nx, rDrop, rIte, rFrz, rApp, rExt, rExtA, rAsg, rPar, rgName, rgTup, rgCons, rgNil, rVar, rVarW, rC, rOp, rUn, rFn, aNil, aCons, rTupM, rLstM, rIf, tB', tAndM, tOrM, tNotM, rAndV, rOrV, rNotV, rChain,
  kAdd, kSub, kMul, kDiv, kMod, kDivN, kModN, kPow, kShl, kCmp, kEq, kNe, kIs, kIsNot, isNoneD, kNeg, kIx, kRev, kLen, kAbs, kMax2, kMin2, kInt, kGcd, kTuple, kList, kRepr, rSl, oNone, oSome, rYes, iSeq, seqP, iRange1, iRange2, iRange3, iEnumA, iZipM, rFor, rLc, wipeE,
  List.getElem?_cons_zero, List.getElem?_cons_succ, List.set_cons_zero, List.set_cons_succ, List.length_cons, List.length_nil, List.zip_cons_cons, List.zip_nil_right, List.foldl_cons, List.foldl_nil, Nat.zero_add, Nat.reduceAdd, decide_eq_true_eq, Bool.not_eq_true', Bool.not_true, Bool.not_false, decide_eq_false_iff_not, Bool.false_eq_true, if_false, if_true, ite_true, ite_false, true_and, and_true, reduceIte, ↓reduceIte, Sl.f.injEq, rAsgO, rgNameO, rParO, setK, kRepL, rStore, kGet3, kRevA, rgLst, kRep, aStar, rPop1, rPopA, rBrk, rCnt])
local macro_rules | `(tactic| walk_at "side") => `(tactic| first | omega | exact mulOk (by omega) | exact mulOkR (by omega) | exact ⟨by omega, log_small (by omega)⟩ | exact log_small (by omega) | (rw [sizeLine_eq]; omega) | (simp only [List.length_append, List.length_map, List.length_cons, List.length_nil, List.length_range, List.length_reverse, List.length_tail, List.length_dropLast, sizeLine_eq]; omega) | assumption | walk_at "rp" | walk_at "sh" | exact ⟨by decide, by decide, by decide⟩ | decide)
local macro_rules | `(tactic| walk_at "adv") => `(tactic| repeat ((with_reducible refine And.intro ?_ ?_); (focus (walk_at "side"; done))))
local macro_rules | `(tactic| walk_at "rp") => `(tactic| exact RB.repr (RB.self (by (simp only [okB, okBs, Bool.and_eq_true, decide_eq_true_eq, true_and, and_true, Bool.and_true]; try (repeat' (first | omega | decide +kernel | assumption | refine And.intro ?_ ?_))))) (by (simp [PyData.bulk, PyData.bulkAll]; try decide)) (by (simp [PyData.depth, PyData.depthAll]; try decide)))
local macro_rules | `(tactic| walk_at "sh") => `(tactic| ((try simp [SeqAt.shaped, PyData.canLay0, PyData.canLayAll0, PyData.depth, PyData.depthAll]); (repeat' (first | decide +kernel | refine And.intro ?_ ?_)); done))
/-! tree_sons(x): slots 0 x, 1 p, 2 q -/
def r_tree_sons_1 : RS := (rRet (rTupM (aCons (rTupM (aCons (rVar 1) (aCons (rOp kAdd (rVarW 1) (rVarW 2)) aNil))) (aCons (rTupM (aCons (rOp kAdd (rVarW 1) (rVarW 2)) (aCons (rVar 2) aNil))) aNil))))
theorem q_r_tree_sons_1 (x : Sl) (xs : En) (M : ME) : r_tree_sons_1 (x :: xs) M = ((rRet (rTupM (aCons (rTupM (aCons (rVar 1) (aCons (rOp kAdd (rVarW 1) (rVarW 2)) aNil))) (aCons (rTupM (aCons (rOp kAdd (rVarW 1) (rVarW 2)) (aCons (rVar 2) aNil))) aNil))))) (x :: xs) M := rfl
def r_tree_sons_2 : RS := rSeq (rAsg (rVar 0) (rgTup 2 (rgCons (rgName 1) (rgCons (rgName 2) rgNil)))) r_tree_sons_1
theorem q_r_tree_sons_2 (x : Sl) (xs : En) (M : ME) : r_tree_sons_2 (x :: xs) M = (rSeq (rAsg (rVar 0) (rgTup 2 (rgCons (rgName 1) (rgCons (rgName 2) rgNil)))) r_tree_sons_1) (x :: xs) M := rfl
def B_tree_sons : KC := rDef 1 3 r_tree_sons_2
local macro_rules | `(tactic| walk_at "tree_sons") => `(tactic| simp only [rSeq, rSet, rSetO, rRet, rRetN, rPass_nx, rDrop, rIte, rFrz, rApp, rExt, rExtA, rAsg, rPar, rgName, rgTup, rgCons, rgNil, rVar, rVarW, rC, rOp, rUn, rFn, aNil, aCons, rTupM, rLstM, rIf, tB', tAndM, tOrM, tNotM, rAndV, rOrV, rNotV, rChain, kAdd, kSub, kMul, kDiv, kMod, kDivN, kModN, kPow, kShl, kCmp, kEq, kNe, kIs, kIsNot, isNoneD, kNeg, kIx, kRev, kLen, kAbs, kMax2, kMin2, kInt, kGcd, kTuple, kList, kRepr, rSl, oNone, oSome, rYes, iSeq, seqP, iRange1, iRange2, iRange3, iEnumA, iZipM, rFor, rLc, wipeE, List.getElem?_cons_zero, List.getElem?_cons_succ, List.set_cons_zero, List.set_cons_succ, List.length_cons, List.length_nil, List.zip_cons_cons, List.zip_nil_right, List.foldl_cons, List.foldl_nil, Nat.zero_add, Nat.reduceAdd, decide_eq_true_eq, Bool.not_eq_true', Bool.not_true, Bool.not_false, decide_eq_false_iff_not, Bool.false_eq_true, if_false, if_true, ite_true, ite_false, true_and, and_true, reduceIte, ↓reduceIte, Sl.f.injEq, rAsgO, rgNameO, rParO, setK, kRepL, rStore, kGet3, kRevA, rgLst, kRep, aStar, rPop1, rPopA, rBrk, rCnt, ix_two, ix_three, shp1, shp2, shp3, eqv2, eqv3, kIsTup, kIsLst, kIsInt, kIsBool, kIsStr, kIsDict, kJoin, kRepL, kAddL, rStore, rStoreI, kStr, kGet3, kRevA, rgLst, kRep, iZipX, aStar, rPop1, rPopA, rBrk, rCnt, List.dropLast_concat, List.getLast?_append, List.getLast?_singleton, Option.some_or, rAsgO, rgNameO, rParO, setK, Nat.reduceEqDiff, ix_zero, ix_one, ix_last, kInN, kIn, kNotIn, rLRg1, rLRg2, kInD, kInX, rIndexM, kReprE, kEqZ, kNeZ, kRepS, rSlStr, rExtA, flatD, List.all_cons, List.all_nil, Bool.and_self, Bool.and_true, List.any_cons, List.any_nil, not_true_eq_false, Int.zero_add, Nat.zero_le, sz1, sz2, sz3, sz4, sz5, sz6, sz7, sz8, sz9, sz10, sz11, sz12, Int.reduceLT, Int.reduceLE, Nat.reduceLT, Int.reduceAdd, Int.reduceMul, Int.reduceSub, Int.reduceNeg, Int.reducePow, Int.reduceToNat, Int.reduceDiv, Int.reduceMod, Nat.reducePow, decide_true, decide_false, ne_eq, not_false_eq_true, Bool.true_eq_false, if_true, if_false, q_r_tree_sons_1, q_r_tree_sons_2])
local macro_rules | `(tactic| walk_at "tree_sons0") => `(tactic| simp only [rSeq, rSet, rSetO, rRet, rRetN, rPass_nx, rDrop, rIte, rFrz, rApp, rExt, rExtA, rAsg, rPar, rgName, rgTup, rgCons, rgNil, rVar, rVarW, rC, rOp, rUn, rFn, aNil, aCons, rTupM, rLstM, rIf, tB', tAndM, tOrM, tNotM, rAndV, rOrV, rNotV, rChain, kAdd, kSub, kMul, kDiv, kMod, kDivN, kModN, kPow, kShl, kCmp, kEq, kNe, kIs, kIsNot, isNoneD, kNeg, kIx, kRev, kLen, kAbs, kMax2, kMin2, kInt, kGcd, kTuple, kList, kRepr, rSl, oNone, oSome, rYes, iSeq, seqP, iRange1, iRange2, iRange3, iEnumA, iZipM, rFor, rLc, wipeE, List.getElem?_cons_zero, List.getElem?_cons_succ, List.set_cons_zero, List.set_cons_succ, List.length_cons, List.length_nil, List.zip_cons_cons, List.zip_nil_right, List.foldl_cons, List.foldl_nil, Nat.zero_add, Nat.reduceAdd, decide_eq_true_eq, Bool.not_eq_true', Bool.not_true, Bool.not_false, decide_eq_false_iff_not, Bool.false_eq_true, if_false, if_true, ite_true, ite_false, true_and, and_true, reduceIte, ↓reduceIte, Sl.f.injEq, rAsgO, rgNameO, rParO, setK, kRepL, rStore, kGet3, kRevA, rgLst, kRep, aStar, rPop1, rPopA, rBrk, rCnt, ix_two, ix_three, shp1, shp2, shp3, eqv2, eqv3, kIsTup, kIsLst, kIsInt, kIsBool, kIsStr, kIsDict, kJoin, kRepL, kAddL, rStore, rStoreI, kStr, kGet3, kRevA, rgLst, kRep, iZipX, aStar, rPop1, rPopA, rBrk, rCnt, List.dropLast_concat, List.getLast?_append, List.getLast?_singleton, Option.some_or, rAsgO, rgNameO, rParO, setK, Nat.reduceEqDiff, ix_zero, ix_one, ix_last, kInN, kIn, kNotIn, rLRg1, rLRg2, kInD, kInX, rIndexM, kReprE, kEqZ, kNeZ, kRepS, rSlStr, rExtA, flatD, List.all_cons, List.all_nil, Bool.and_self, Bool.and_true, List.any_cons, List.any_nil, not_true_eq_false, Int.zero_add, Nat.zero_le, sz1, sz2, sz3, sz4, sz5, sz6, sz7, sz8, sz9, sz10, sz11, sz12, Int.reduceLT, Int.reduceLE, Nat.reduceLT, Int.reduceAdd, Int.reduceMul, Int.reduceSub, Int.reduceNeg, Int.reducePow, Int.reduceToNat, Int.reduceDiv, Int.reduceMod, Nat.reducePow, decide_true, decide_false, ne_eq, not_false_eq_true, Bool.true_eq_false, if_true, if_false])
def pF (x : Int × Int) : PyData := .tuple [.int x.1, .int x.2]
def S_tree_sons : KC := fun ds P => match ds with
  | [.tuple [.int p, .int q]] => P (.tuple [.tuple [.int p, .int (p + q)], .tuple [.int (p + q), .int q]])
  | _ => False
theorem S_tree_sons_ok : ∀ ds P, S_tree_sons ds P → B_tree_sons ds P := by
  intro ds P h
  unfold S_tree_sons at h
  split at h
  · rename_i p q
    refine ⟨rfl, ?_⟩
    show r_tree_sons_2 [.f (.tuple [.int p, .int q]), .u, .u] _
    unfold r_tree_sons_2
    walk_at "tree_sons0"
    unfold r_tree_sons_1
    walk_at "tree_sons0"
    exact h
  · exact h.elim
/-! tree_father(x): slots 0 x, 1 p, 2 q -/
def r_tree_father_1 : RS := (rRet (rC .none))
def r_tree_father_2 : RS := (rRet (rIf (tB' (rOp kLt (rVarW 1) (rVarW 2))) (rTupM (aCons (rVar 1) (aCons (rOp kSub (rVarW 2) (rVarW 1)) aNil))) (rTupM (aCons (rOp kSub (rVarW 1) (rVarW 2)) (aCons (rVar 2) aNil)))))
def r_tree_father_3 : RS := rSeq (rIte (tB' (rOp kEq (rVarW 1) (rVarW 2))) r_tree_father_1 rPass) r_tree_father_2
theorem q_r_tree_father_3 (x : Sl) (xs : En) (M : ME) : r_tree_father_3 (x :: xs) M = (rSeq (rIte (tB' (rOp kEq (rVarW 1) (rVarW 2))) r_tree_father_1 rPass) r_tree_father_2) (x :: xs) M := rfl
def r_tree_father_4 : RS := rSeq (rAsg (rVar 0) (rgTup 2 (rgCons (rgName 1) (rgCons (rgName 2) rgNil)))) r_tree_father_3
theorem q_r_tree_father_4 (x : Sl) (xs : En) (M : ME) : r_tree_father_4 (x :: xs) M = (rSeq (rAsg (rVar 0) (rgTup 2 (rgCons (rgName 1) (rgCons (rgName 2) rgNil)))) r_tree_father_3) (x :: xs) M := rfl
def B_tree_father : KC := rDef 1 3 r_tree_father_4
local macro_rules | `(tactic| walk_at "tree_father") => `(tactic| simp only [rSeq, rSet, rSetO, rRet, rRetN, rPass_nx, rDrop, rIte, rFrz, rApp, rExt, rExtA, rAsg, rPar, rgName, rgTup, rgCons, rgNil, rVar, rVarW, rC, rOp, rUn, rFn, aNil, aCons, rTupM, rLstM, rIf, tB', tAndM, tOrM, tNotM, rAndV, rOrV, rNotV, rChain, kAdd, kSub, kMul, kDiv, kMod, kDivN, kModN, kPow, kShl, kCmp, kEq, kNe, kIs, kIsNot, isNoneD, kNeg, kIx, kRev, kLen, kAbs, kMax2, kMin2, kInt, kGcd, kTuple, kList, kRepr, rSl, oNone, oSome, rYes, iSeq, seqP, iRange1, iRange2, iRange3, iEnumA, iZipM, rFor, rLc, wipeE, List.getElem?_cons_zero, List.getElem?_cons_succ, List.set_cons_zero, List.set_cons_succ, List.length_cons, List.length_nil, List.zip_cons_cons, List.zip_nil_right, List.foldl_cons, List.foldl_nil, Nat.zero_add, Nat.reduceAdd, decide_eq_true_eq, Bool.not_eq_true', Bool.not_true, Bool.not_false, decide_eq_false_iff_not, Bool.false_eq_true, if_false, if_true, ite_true, ite_false, true_and, and_true, reduceIte, ↓reduceIte, Sl.f.injEq, rAsgO, rgNameO, rParO, setK, kRepL, rStore, kGet3, kRevA, rgLst, kRep, aStar, rPop1, rPopA, rBrk, rCnt, ix_two, ix_three, shp1, shp2, shp3, eqv2, eqv3, kIsTup, kIsLst, kIsInt, kIsBool, kIsStr, kIsDict, kJoin, kRepL, kAddL, rStore, rStoreI, kStr, kGet3, kRevA, rgLst, kRep, iZipX, aStar, rPop1, rPopA, rBrk, rCnt, List.dropLast_concat, List.getLast?_append, List.getLast?_singleton, Option.some_or, rAsgO, rgNameO, rParO, setK, Nat.reduceEqDiff, ix_zero, ix_one, ix_last, kInN, kIn, kNotIn, rLRg1, rLRg2, kInD, kInX, rIndexM, kReprE, kEqZ, kNeZ, kRepS, rSlStr, rExtA, flatD, List.all_cons, List.all_nil, Bool.and_self, Bool.and_true, List.any_cons, List.any_nil, not_true_eq_false, Int.zero_add, Nat.zero_le, sz1, sz2, sz3, sz4, sz5, sz6, sz7, sz8, sz9, sz10, sz11, sz12, Int.reduceLT, Int.reduceLE, Nat.reduceLT, Int.reduceAdd, Int.reduceMul, Int.reduceSub, Int.reduceNeg, Int.reducePow, Int.reduceToNat, Int.reduceDiv, Int.reduceMod, Nat.reducePow, decide_true, decide_false, ne_eq, not_false_eq_true, Bool.true_eq_false, if_true, if_false, q_r_tree_father_3, q_r_tree_father_4])
local macro_rules | `(tactic| walk_at "tree_father0") => `(tactic| simp only [rSeq, rSet, rSetO, rRet, rRetN, rPass_nx, rDrop, rIte, rFrz, rApp, rExt, rExtA, rAsg, rPar, rgName, rgTup, rgCons, rgNil, rVar, rVarW, rC, rOp, rUn, rFn, aNil, aCons, rTupM, rLstM, rIf, tB', tAndM, tOrM, tNotM, rAndV, rOrV, rNotV, rChain, kAdd, kSub, kMul, kDiv, kMod, kDivN, kModN, kPow, kShl, kCmp, kEq, kNe, kIs, kIsNot, isNoneD, kNeg, kIx, kRev, kLen, kAbs, kMax2, kMin2, kInt, kGcd, kTuple, kList, kRepr, rSl, oNone, oSome, rYes, iSeq, seqP, iRange1, iRange2, iRange3, iEnumA, iZipM, rFor, rLc, wipeE, List.getElem?_cons_zero, List.getElem?_cons_succ, List.set_cons_zero, List.set_cons_succ, List.length_cons, List.length_nil, List.zip_cons_cons, List.zip_nil_right, List.foldl_cons, List.foldl_nil, Nat.zero_add, Nat.reduceAdd, decide_eq_true_eq, Bool.not_eq_true', Bool.not_true, Bool.not_false, decide_eq_false_iff_not, Bool.false_eq_true, if_false, if_true, ite_true, ite_false, true_and, and_true, reduceIte, ↓reduceIte, Sl.f.injEq, rAsgO, rgNameO, rParO, setK, kRepL, rStore, kGet3, kRevA, rgLst, kRep, aStar, rPop1, rPopA, rBrk, rCnt, ix_two, ix_three, shp1, shp2, shp3, eqv2, eqv3, kIsTup, kIsLst, kIsInt, kIsBool, kIsStr, kIsDict, kJoin, kRepL, kAddL, rStore, rStoreI, kStr, kGet3, kRevA, rgLst, kRep, iZipX, aStar, rPop1, rPopA, rBrk, rCnt, List.dropLast_concat, List.getLast?_append, List.getLast?_singleton, Option.some_or, rAsgO, rgNameO, rParO, setK, Nat.reduceEqDiff, ix_zero, ix_one, ix_last, kInN, kIn, kNotIn, rLRg1, rLRg2, kInD, kInX, rIndexM, kReprE, kEqZ, kNeZ, kRepS, rSlStr, rExtA, flatD, List.all_cons, List.all_nil, Bool.and_self, Bool.and_true, List.any_cons, List.any_nil, not_true_eq_false, Int.zero_add, Nat.zero_le, sz1, sz2, sz3, sz4, sz5, sz6, sz7, sz8, sz9, sz10, sz11, sz12, Int.reduceLT, Int.reduceLE, Nat.reduceLT, Int.reduceAdd, Int.reduceMul, Int.reduceSub, Int.reduceNeg, Int.reducePow, Int.reduceToNat, Int.reduceDiv, Int.reduceMod, Nat.reducePow, decide_true, decide_false, ne_eq, not_false_eq_true, Bool.true_eq_false, if_true, if_false])
def faD (p q : Int) : PyData := if p = q then .none else if p < q then .tuple [.int p, .int (q - p)] else .tuple [.int (p - q), .int q]
def S_tree_father : KC := fun ds P => match ds with
  | [.tuple [.int p, .int q]] => P (faD p q)
  | _ => False
theorem S_tree_father_ok : ∀ ds P, S_tree_father ds P → B_tree_father ds P := by
  intro ds P h
  unfold S_tree_father at h
  split at h
  · rename_i p q
    refine ⟨rfl, ?_⟩
    show r_tree_father_4 [.f (.tuple [.int p, .int q]), .u, .u] _
    unfold faD at h
    unfold r_tree_father_4
    walk_at "tree_father0"
    unfold r_tree_father_3
    walk_at "tree_father0"
    by_cases c : p = q
    · rw [if_pos c] at h ⊢
      unfold r_tree_father_1
      walk_at "tree_father0"
      exact h
    · rw [if_neg c] at h ⊢
      unfold r_tree_father_2
      walk_at "tree_father0"
      by_cases c2 : p < q
      · rw [if_pos c2] at h ⊢
        exact h
      · rw [if_neg c2] at h ⊢
        exact h
  · exact h.elim
/-! tree_way(x): slots 0 x, 1 found, 2 here -/
def r_tree_way_1 : RS := (rSet 2 (rFn S_tree_father (aCons (rVar 2) aNil)))
theorem q_r_tree_way_1 (x : Sl) (xs : En) (M : ME) : r_tree_way_1 (x :: xs) M = ((rSet 2 (rFn S_tree_father (aCons (rVar 2) aNil)))) (x :: xs) M := rfl
def r_tree_way_2 : RS := rSeq (rApp 1 (rVar 2)) r_tree_way_1
def r_tree_way_3 : RS := (rRet (rFn kTuple (aCons (rUn kRevA (rVarW 1)) aNil)))
def r_tree_way_4 : RS := rSeq (rWhile (tB' (rOp kIsNot (rVarW 2) (rC .none))) r_tree_way_2) r_tree_way_3
theorem q_r_tree_way_4 (x : Sl) (xs : En) (M : ME) : r_tree_way_4 (x :: xs) M = (rSeq (rWhile (tB' (rOp kIsNot (rVarW 2) (rC .none))) r_tree_way_2) r_tree_way_3) (x :: xs) M := rfl
def r_tree_way_5 : RS := rSeq (rParO 0 [1, 2] (aCons (rLstM aNil) (aCons (rVar 0) aNil))) r_tree_way_4
theorem q_r_tree_way_5 (x : Sl) (xs : En) (M : ME) : r_tree_way_5 (x :: xs) M = (rSeq (rParO 0 [1, 2] (aCons (rLstM aNil) (aCons (rVar 0) aNil))) r_tree_way_4) (x :: xs) M := rfl
def B_tree_way : KC := rDef 1 3 r_tree_way_5
local macro_rules | `(tactic| walk_at "tree_way") => `(tactic| simp only [rSeq, rSet, rSetO, rRet, rRetN, rPass_nx, rDrop, rIte, rFrz, rApp, rExt, rExtA, rAsg, rPar, rgName, rgTup, rgCons, rgNil, rVar, rVarW, rC, rOp, rUn, rFn, aNil, aCons, rTupM, rLstM, rIf, tB', tAndM, tOrM, tNotM, rAndV, rOrV, rNotV, rChain, kAdd, kSub, kMul, kDiv, kMod, kDivN, kModN, kPow, kShl, kCmp, kEq, kNe, kIs, kIsNot, isNoneD, kNeg, kIx, kRev, kLen, kAbs, kMax2, kMin2, kInt, kGcd, kTuple, kList, kRepr, rSl, oNone, oSome, rYes, iSeq, seqP, iRange1, iRange2, iRange3, iEnumA, iZipM, rFor, rLc, wipeE, List.getElem?_cons_zero, List.getElem?_cons_succ, List.set_cons_zero, List.set_cons_succ, List.length_cons, List.length_nil, List.zip_cons_cons, List.zip_nil_right, List.foldl_cons, List.foldl_nil, Nat.zero_add, Nat.reduceAdd, decide_eq_true_eq, Bool.not_eq_true', Bool.not_true, Bool.not_false, decide_eq_false_iff_not, Bool.false_eq_true, if_false, if_true, ite_true, ite_false, true_and, and_true, reduceIte, ↓reduceIte, Sl.f.injEq, rAsgO, rgNameO, rParO, setK, kRepL, rStore, kGet3, kRevA, rgLst, kRep, aStar, rPop1, rPopA, rBrk, rCnt, ix_two, ix_three, shp1, shp2, shp3, eqv2, eqv3, kIsTup, kIsLst, kIsInt, kIsBool, kIsStr, kIsDict, kJoin, kRepL, kAddL, rStore, rStoreI, kStr, kGet3, kRevA, rgLst, kRep, iZipX, aStar, rPop1, rPopA, rBrk, rCnt, List.dropLast_concat, List.getLast?_append, List.getLast?_singleton, Option.some_or, rAsgO, rgNameO, rParO, setK, Nat.reduceEqDiff, ix_zero, ix_one, ix_last, kInN, kIn, kNotIn, rLRg1, rLRg2, kInD, kInX, rIndexM, kReprE, kEqZ, kNeZ, kRepS, rSlStr, rExtA, flatD, List.all_cons, List.all_nil, Bool.and_self, Bool.and_true, List.any_cons, List.any_nil, not_true_eq_false, Int.zero_add, Nat.zero_le, sz1, sz2, sz3, sz4, sz5, sz6, sz7, sz8, sz9, sz10, sz11, sz12, Int.reduceLT, Int.reduceLE, Nat.reduceLT, Int.reduceAdd, Int.reduceMul, Int.reduceSub, Int.reduceNeg, Int.reducePow, Int.reduceToNat, Int.reduceDiv, Int.reduceMod, Nat.reducePow, decide_true, decide_false, ne_eq, not_false_eq_true, Bool.true_eq_false, if_true, if_false, q_r_tree_way_1, q_r_tree_way_4, q_r_tree_way_5, S_tree_father])
local macro_rules | `(tactic| walk_at "tree_way0") => `(tactic| simp only [rSeq, rSet, rSetO, rRet, rRetN, rPass_nx, rDrop, rIte, rFrz, rApp, rExt, rExtA, rAsg, rPar, rgName, rgTup, rgCons, rgNil, rVar, rVarW, rC, rOp, rUn, rFn, aNil, aCons, rTupM, rLstM, rIf, tB', tAndM, tOrM, tNotM, rAndV, rOrV, rNotV, rChain, kAdd, kSub, kMul, kDiv, kMod, kDivN, kModN, kPow, kShl, kCmp, kEq, kNe, kIs, kIsNot, isNoneD, kNeg, kIx, kRev, kLen, kAbs, kMax2, kMin2, kInt, kGcd, kTuple, kList, kRepr, rSl, oNone, oSome, rYes, iSeq, seqP, iRange1, iRange2, iRange3, iEnumA, iZipM, rFor, rLc, wipeE, List.getElem?_cons_zero, List.getElem?_cons_succ, List.set_cons_zero, List.set_cons_succ, List.length_cons, List.length_nil, List.zip_cons_cons, List.zip_nil_right, List.foldl_cons, List.foldl_nil, Nat.zero_add, Nat.reduceAdd, decide_eq_true_eq, Bool.not_eq_true', Bool.not_true, Bool.not_false, decide_eq_false_iff_not, Bool.false_eq_true, if_false, if_true, ite_true, ite_false, true_and, and_true, reduceIte, ↓reduceIte, Sl.f.injEq, rAsgO, rgNameO, rParO, setK, kRepL, rStore, kGet3, kRevA, rgLst, kRep, aStar, rPop1, rPopA, rBrk, rCnt, ix_two, ix_three, shp1, shp2, shp3, eqv2, eqv3, kIsTup, kIsLst, kIsInt, kIsBool, kIsStr, kIsDict, kJoin, kRepL, kAddL, rStore, rStoreI, kStr, kGet3, kRevA, rgLst, kRep, iZipX, aStar, rPop1, rPopA, rBrk, rCnt, List.dropLast_concat, List.getLast?_append, List.getLast?_singleton, Option.some_or, rAsgO, rgNameO, rParO, setK, Nat.reduceEqDiff, ix_zero, ix_one, ix_last, kInN, kIn, kNotIn, rLRg1, rLRg2, kInD, kInX, rIndexM, kReprE, kEqZ, kNeZ, kRepS, rSlStr, rExtA, flatD, List.all_cons, List.all_nil, Bool.and_self, Bool.and_true, List.any_cons, List.any_nil, not_true_eq_false, Int.zero_add, Nat.zero_le, sz1, sz2, sz3, sz4, sz5, sz6, sz7, sz8, sz9, sz10, sz11, sz12, Int.reduceLT, Int.reduceLE, Nat.reduceLT, Int.reduceAdd, Int.reduceMul, Int.reduceSub, Int.reduceNeg, Int.reducePow, Int.reduceToNat, Int.reduceDiv, Int.reduceMod, Nat.reducePow, decide_true, decide_false, ne_eq, not_false_eq_true, Bool.true_eq_false, if_true, if_false, S_tree_father])
/-- from a fraction to its father and on, to (1, 1) -/
inductive Tw : Int → Int → List (Int × Int) → Prop
  | one : Tw 1 1 [(1, 1)]
  | lt {p q : Int} {L : List (Int × Int)} : 0 < p → p < q → Tw p (q - p) L → Tw p q ((p, q) :: L)
  | gt {p q : Int} {L : List (Int × Int)} : 0 < q → q < p → Tw (p - q) q L → Tw p q ((p, q) :: L)
theorem Tw.pos {p q : Int} {L : List (Int × Int)} (h : Tw p q L) : 0 < p ∧ 0 < q ∧ ∃ T, L = (p, q) :: T := by
  cases h with
  | one => exact ⟨by decide, by decide, _, rfl⟩
  | lt h1 h2 _ => exact ⟨h1, by omega, _, rfl⟩
  | gt h1 h2 _ => exact ⟨by omega, h1, _, rfl⟩
def S_tree_way : KC := fun ds P => match ds with
  | [.tuple [.int p, .int q]] => ∃ L, Tw p q L ∧ L.length ≤ 400 ∧ P (.tuple (L.reverse.map pF))
  | _ => False
theorem S_tree_way_ok : ∀ ds P, S_tree_way ds P → B_tree_way ds P := by
  intro ds P h
  unfold S_tree_way at h
  split at h
  · rename_i p q
    obtain ⟨L, hL, l4, hP⟩ := h
    refine ⟨rfl, ?_⟩
    show r_tree_way_5 [.f (.tuple [.int p, .int q]), .u, .u] _
    unfold r_tree_way_5
    walk_at "tree_way0"
    unfold r_tree_way_4
    walk_at "tree_way0"
    refine while_inv (fun e => ∃ (pre R : List (Int × Int)) (here : PyData), e = [.f (.tuple [.int p, .int q]), .o (.list (pre.map pF)), .f here] ∧ L = pre ++ R ∧ ((R = [] ∧ here = .none) ∨ ∃ a b, Tw a b R ∧ here = .tuple [.int a, .int b]))
      (fun e => match e with | [_, .o (.list ds), _] => L.length - ds.length | _ => 0) ⟨[], L, _, rfl, rfl, .inr ⟨p, q, hL, rfl⟩⟩ ?_
    rintro e ⟨pre, R, here, rfl, hR, hh⟩ M' hn hct hr hbk
    rcases hh with ⟨rfl, rfl⟩ | ⟨a, b, tw, rfl⟩
    · walk_at "tree_way0"
      unfold r_tree_way_3
      walk_at "tree_way0"
      rw [List.append_nil] at hR
      subst hR
      rw [← List.map_reverse]
      exact hP
    · walk_at "tree_way0"
      unfold r_tree_way_2
      walk_at "tree_way0"
      obtain ⟨a0, b0, T, rfl⟩ := tw.pos
      have hl := congrArg List.length hR
      rw [List.length_append, List.length_cons] at hl
      refine ⟨by rw [List.length_map, sizeLine_eq]; omega, ?_⟩
      unfold r_tree_way_1
      walk_at "tree_way0"
      have me : ∀ here', (match ([.f (.tuple [.int p, .int q]), .o (.list (pre.map pF ++ [.tuple [.int a, .int b]])), .f here'] : En) with | [_, .o (.list ds), _] => L.length - ds.length | _ => 0) < L.length - (pre.map pF).length := fun here' => by
        show L.length - (pre.map pF ++ [PyData.tuple [.int a, .int b]]).length < _
        rw [List.length_append, List.length_singleton, List.length_map]
        omega
      refine hn _ ⟨pre ++ [(a, b)], T, faD a b, by rw [List.map_append]; rfl, by rw [hR]; simp, ?_⟩ (me (faD a b))
      unfold faD
      cases tw with
      | one => exact .inl ⟨rfl, rfl⟩
      | lt h1 h2 h3 => exact .inr ⟨_, _, h3, by rw [if_neg (by omega), if_pos h2]⟩
      | gt h1 h2 h3 => exact .inr ⟨_, _, h3, by rw [if_neg (by omega), if_neg (by omega)]⟩
  · exact h.elim
/-! is_fraction_above(value): slots 0 value, 1 x -/
def r_is_fraction_above_1 : RS := (rRet (rC (.bool false)))
def r_is_fraction_above_2 : RS := (rRet (rC (.bool false)))
def r_is_fraction_above_3 : RS := (rRet (rOp kEq (rFn kGcd (aCons (rOp kIx (rVarW 0) (rC (.int 0))) (aCons (rOp kIx (rVarW 0) (rC (.int 1))) aNil))) (rC (.int 1))))
def r_is_fraction_above_4 : RS := rSeq (rIte (tNotM (tB' (rFn kAll (aCons (rLc [1] (iSeq (rVarW 0)) (rgName 1) rYes (rAndV (rUn kIsInt (rVarW 1)) (rAndV (rNotV (rUn kIsBool (rVarW 1))) (rOp kGt (rVarW 1) (rC (.int 0)))))) aNil)))) r_is_fraction_above_2 rPass) r_is_fraction_above_3
def r_is_fraction_above_5 : RS := rSeq (rIte (tOrM (tNotM (tB' (rUn kIsTup (rVarW 0)))) (tB' (rOp kNe (rFn kLen (aCons (rVarW 0) aNil)) (rC (.int 2))))) r_is_fraction_above_1 rPass) r_is_fraction_above_4
theorem q_r_is_fraction_above_5 (x : Sl) (xs : En) (M : ME) : r_is_fraction_above_5 (x :: xs) M = (rSeq (rIte (tOrM (tNotM (tB' (rUn kIsTup (rVarW 0)))) (tB' (rOp kNe (rFn kLen (aCons (rVarW 0) aNil)) (rC (.int 2))))) r_is_fraction_above_1 rPass) r_is_fraction_above_4) (x :: xs) M := rfl
def B_is_fraction_above : KC := rDef 1 2 r_is_fraction_above_5
local macro_rules | `(tactic| walk_at "is_fraction_above") => `(tactic| simp only [rSeq, rSet, rSetO, rRet, rRetN, rPass_nx, rDrop, rIte, rFrz, rApp, rExt, rExtA, rAsg, rPar, rgName, rgTup, rgCons, rgNil, rVar, rVarW, rC, rOp, rUn, rFn, aNil, aCons, rTupM, rLstM, rIf, tB', tAndM, tOrM, tNotM, rAndV, rOrV, rNotV, rChain, kAdd, kSub, kMul, kDiv, kMod, kDivN, kModN, kPow, kShl, kCmp, kEq, kNe, kIs, kIsNot, isNoneD, kNeg, kIx, kRev, kLen, kAbs, kMax2, kMin2, kInt, kGcd, kTuple, kList, kRepr, rSl, oNone, oSome, rYes, iSeq, seqP, iRange1, iRange2, iRange3, iEnumA, iZipM, rFor, rLc, wipeE, List.getElem?_cons_zero, List.getElem?_cons_succ, List.set_cons_zero, List.set_cons_succ, List.length_cons, List.length_nil, List.zip_cons_cons, List.zip_nil_right, List.foldl_cons, List.foldl_nil, Nat.zero_add, Nat.reduceAdd, decide_eq_true_eq, Bool.not_eq_true', Bool.not_true, Bool.not_false, decide_eq_false_iff_not, Bool.false_eq_true, if_false, if_true, ite_true, ite_false, true_and, and_true, reduceIte, ↓reduceIte, Sl.f.injEq, rAsgO, rgNameO, rParO, setK, kRepL, rStore, kGet3, kRevA, rgLst, kRep, aStar, rPop1, rPopA, rBrk, rCnt, ix_two, ix_three, shp1, shp2, shp3, eqv2, eqv3, kIsTup, kIsLst, kIsInt, kIsBool, kIsStr, kIsDict, kJoin, kRepL, kAddL, rStore, rStoreI, kStr, kGet3, kRevA, rgLst, kRep, iZipX, aStar, rPop1, rPopA, rBrk, rCnt, List.dropLast_concat, List.getLast?_append, List.getLast?_singleton, Option.some_or, rAsgO, rgNameO, rParO, setK, Nat.reduceEqDiff, ix_zero, ix_one, ix_last, kInN, kIn, kNotIn, rLRg1, rLRg2, kInD, kInX, rIndexM, kReprE, kEqZ, kNeZ, kRepS, rSlStr, rExtA, flatD, List.all_cons, List.all_nil, Bool.and_self, Bool.and_true, List.any_cons, List.any_nil, not_true_eq_false, Int.zero_add, Nat.zero_le, sz1, sz2, sz3, sz4, sz5, sz6, sz7, sz8, sz9, sz10, sz11, sz12, Int.reduceLT, Int.reduceLE, Nat.reduceLT, Int.reduceAdd, Int.reduceMul, Int.reduceSub, Int.reduceNeg, Int.reducePow, Int.reduceToNat, Int.reduceDiv, Int.reduceMod, Nat.reducePow, decide_true, decide_false, ne_eq, not_false_eq_true, Bool.true_eq_false, if_true, if_false, q_r_is_fraction_above_5])
local macro_rules | `(tactic| walk_at "is_fraction_above0") => `(tactic| simp only [rSeq, rSet, rSetO, rRet, rRetN, rPass_nx, rDrop, rIte, rFrz, rApp, rExt, rExtA, rAsg, rPar, rgName, rgTup, rgCons, rgNil, rVar, rVarW, rC, rOp, rUn, rFn, aNil, aCons, rTupM, rLstM, rIf, tB', tAndM, tOrM, tNotM, rAndV, rOrV, rNotV, rChain, kAdd, kSub, kMul, kDiv, kMod, kDivN, kModN, kPow, kShl, kCmp, kEq, kNe, kIs, kIsNot, isNoneD, kNeg, kIx, kRev, kLen, kAbs, kMax2, kMin2, kInt, kGcd, kTuple, kList, kRepr, rSl, oNone, oSome, rYes, iSeq, seqP, iRange1, iRange2, iRange3, iEnumA, iZipM, rFor, rLc, wipeE, List.getElem?_cons_zero, List.getElem?_cons_succ, List.set_cons_zero, List.set_cons_succ, List.length_cons, List.length_nil, List.zip_cons_cons, List.zip_nil_right, List.foldl_cons, List.foldl_nil, Nat.zero_add, Nat.reduceAdd, decide_eq_true_eq, Bool.not_eq_true', Bool.not_true, Bool.not_false, decide_eq_false_iff_not, Bool.false_eq_true, if_false, if_true, ite_true, ite_false, true_and, and_true, reduceIte, ↓reduceIte, Sl.f.injEq, rAsgO, rgNameO, rParO, setK, kRepL, rStore, kGet3, kRevA, rgLst, kRep, aStar, rPop1, rPopA, rBrk, rCnt, ix_two, ix_three, shp1, shp2, shp3, eqv2, eqv3, kIsTup, kIsLst, kIsInt, kIsBool, kIsStr, kIsDict, kJoin, kRepL, kAddL, rStore, rStoreI, kStr, kGet3, kRevA, rgLst, kRep, iZipX, aStar, rPop1, rPopA, rBrk, rCnt, List.dropLast_concat, List.getLast?_append, List.getLast?_singleton, Option.some_or, rAsgO, rgNameO, rParO, setK, Nat.reduceEqDiff, ix_zero, ix_one, ix_last, kInN, kIn, kNotIn, rLRg1, rLRg2, kInD, kInX, rIndexM, kReprE, kEqZ, kNeZ, kRepS, rSlStr, rExtA, flatD, List.all_cons, List.all_nil, Bool.and_self, Bool.and_true, List.any_cons, List.any_nil, not_true_eq_false, Int.zero_add, Nat.zero_le, sz1, sz2, sz3, sz4, sz5, sz6, sz7, sz8, sz9, sz10, sz11, sz12, Int.reduceLT, Int.reduceLE, Nat.reduceLT, Int.reduceAdd, Int.reduceMul, Int.reduceSub, Int.reduceNeg, Int.reducePow, Int.reduceToNat, Int.reduceDiv, Int.reduceMod, Nat.reducePow, decide_true, decide_false, ne_eq, not_false_eq_true, Bool.true_eq_false, if_true, if_false])
def W30 : List Str := ["0"]
def frB : PyData → Bool
  | .tuple [.int a, .int b] => decide (0 < a) && (decide (0 < b) && decide (Int.gcd a b = 1))
  | _ => false
def poB : PyData → Bool
  | .int a => decide (0 < a)
  | _ => false
theorem frB_len {ds : List PyData} (h : ds.length ≠ 2) : frB (.tuple ds) = false := by
  unfold frB
  split
  · rename_i e
    injection e with e
    subst e
    exact absurd rfl h
  · rfl
theorem frB_po {x y : PyData} (h : (poB x && poB y) = false) : frB (.tuple [x, y]) = false := by
  unfold frB
  split
  · rename_i a b e
    injection e with e
    injection e with e1 e2
    injection e2 with e2 _
    subst e1
    subst e2
    have h : (decide (0 < a) && decide (0 < b)) = false := h
    rw [← Bool.and_assoc, h, Bool.false_and]
  · rfl
theorem poB_int {x : PyData} (h : poB x = true) : ∃ a, x = .int a ∧ 0 < a := by
  cases x with
  | int a => exact ⟨a, rfl, of_decide_eq_true h⟩
  | _ => cases h
def S_is_fraction_above : KC := fun ds P => match ds with
  | [d] => layE d = true ∧ P (.bool (frB d))
  | _ => False
theorem S_is_fraction_above_ok : ∀ ds P, S_is_fraction_above ds P → B_is_fraction_above ds P := by
  intro ds P h
  unfold S_is_fraction_above at h
  split at h
  · rename_i d
    obtain ⟨lay, hP⟩ := h
    refine ⟨rfl, ?_⟩
    show r_is_fraction_above_5 [.f d, .u] _
    unfold r_is_fraction_above_5
    have no : ∀ {d : PyData} {a1 : Sl} {M : ME}, M.rt = P → P (.bool false) → r_is_fraction_above_1 [.f d, a1] M := fun {d a1 M} e h => by
      unfold r_is_fraction_above_1
      walk_at "is_fraction_above0"
      rw [e]
      exact h
    cases d with
    | dict ds =>
      obtain rfl : ds = [] := by simpa [layE] using lay
      walk_at "is_fraction_above0"
      exact no rfl hP
    | tuple ds =>
      walk_at "is_fraction_above0"
      match ds, hP, lay with
      | [], hP, lay =>
        rw [if_pos (by decide)]
        exact no rfl hP
      | [x], hP, lay =>
        rw [if_pos (by simp)]
        rw [frB_len (by simp)] at hP
        exact no rfl hP
      | x :: y :: z :: ds, hP, lay =>
        rw [if_pos (by simp only [List.length_cons]; omega)]
        rw [frB_len (by simp)] at hP
        exact no rfl hP
      | [x, y], hP, lay =>
        rw [if_neg (by simp)]
        have lx := layE_tup lay
        unfold r_is_fraction_above_4
        walk_at "is_fraction_above0"
        refine lc_mapId (fun d => .bool (poB d)) [x, y] (by rw [sizeLine_eq]; exact Nat.le_of_ble_eq_true rfl) (fun u hu Q hQ => ?_) ?_
        · have lu := lx u hu
          cases u with
          | dict ds =>
            obtain rfl : ds = [] := by simpa [layE] using lu
            walk_at "is_fraction_above0"; exact hQ
          | _ => walk_at "is_fraction_above0"; exact hQ
        · refine ⟨[poB x, poB y], rfl, ?_⟩
          have e : ([poB x, poB y].all id) = (poB x && poB y) := by simp
          show (if ([poB x, poB y].all id) = false then _ else _ : Prop)
          rw [e]
          cases hw : (poB x && poB y) with
          | false =>
            rw [if_pos rfl]
            rw [frB_po hw] at hP
            unfold r_is_fraction_above_2
            walk_at "is_fraction_above0"
            exact hP
          | true =>
            rw [if_neg (by decide)]
            rw [Bool.and_eq_true] at hw
            obtain ⟨a, rfl, a0⟩ := poB_int hw.1
            obtain ⟨b, rfl, b0⟩ := poB_int hw.2
            unfold r_is_fraction_above_3
            walk_at "is_fraction_above0"
            have ep : frB (.tuple [.int a, .int b]) = decide (Int.gcd a b = 1) := by
              show (decide (0 < a) && (decide (0 < b) && decide (Int.gcd a b = 1))) = _
              rw [decide_eq_true a0, decide_eq_true b0, Bool.true_and, Bool.true_and]
            rw [ep] at hP
            rw [show decide (((a.natAbs.gcd b.natAbs : Nat) : Int) = 1) = decide (Int.gcd a b = 1) from decide_eq_decide.mpr (by
              show ((Int.gcd a b : Nat) : Int) = 1 ↔ _
              omega)]
            exact hP
    | _ => walk_at "is_fraction_above0"; exact no rfl hP
  · exact h.elim
/-! judge_place(x, value): slots 0 x, 1 value, 2 i, 3 one -/
def r_judge_place_1 : RS := (rRet (rTupM (aCons (rC (.str "form")) aNil)))
def r_judge_place_2 : RS := (rRet (rTupM (aCons (rC (.str "first")) aNil)))
def r_judge_place_3 : RS := (rRet (rTupM (aCons (rC (.str "son")) (aCons (rVar 2) aNil))))
def r_judge_place_4 : RS := (rIte (tB' (rOp (kInX true) (rOp kIx (rVarW 1) (rVarW 2)) (rFn S_tree_sons (aCons (rOp kIx (rVarW 1) (rOp kSub (rVarW 2) (rC (.int 1)))) aNil)))) r_judge_place_3 rPass)
def r_judge_place_5 : RS := (rRet (rIf (tB' (rOp kNeZ (rOp kIx (rVarW 1) (rUn kNeg (rC (.int 1)))) (rVarW 0))) (rTupM (aCons (rC (.str "last")) aNil)) (rC .none)))
def r_judge_place_6 : RS := rSeq (rFor (iRange2 (aCons (rC (.int 1)) (aCons (rFn kLen (aCons (rVarW 1) aNil)) aNil))) (rgName 2) r_judge_place_4) r_judge_place_5
def r_judge_place_7 : RS := rSeq (rIte (tB' (rOp kNeZ (rOp kIx (rVarW 1) (rC (.int 0))) (rTupM (aCons (rC (.int 1)) (aCons (rC (.int 1)) aNil))))) r_judge_place_2 rPass) r_judge_place_6
def r_judge_place_8 : RS := rSeq (rIte (tOrM (tNotM (tB' (rUn kIsTup (rVarW 1)))) (tOrM (tB' (rOp kEqZ (rVarW 1) (rTupM aNil))) (tNotM (tB' (rFn kAll (aCons (rLc [3] (iSeq (rVarW 1)) (rgName 3) rYes (rFn S_is_fraction_above (aCons (rVar 3) aNil))) aNil)))))) r_judge_place_1 rPass) r_judge_place_7
theorem q_r_judge_place_8 (x : Sl) (xs : En) (M : ME) : r_judge_place_8 (x :: xs) M = (rSeq (rIte (tOrM (tNotM (tB' (rUn kIsTup (rVarW 1)))) (tOrM (tB' (rOp kEqZ (rVarW 1) (rTupM aNil))) (tNotM (tB' (rFn kAll (aCons (rLc [3] (iSeq (rVarW 1)) (rgName 3) rYes (rFn S_is_fraction_above (aCons (rVar 3) aNil))) aNil)))))) r_judge_place_1 rPass) r_judge_place_7) (x :: xs) M := rfl
def B_judge_place : KC := rDef 2 4 r_judge_place_8
local macro_rules | `(tactic| walk_at "judge_place") => `(tactic| simp only [rSeq, rSet, rSetO, rRet, rRetN, rPass_nx, rDrop, rIte, rFrz, rApp, rExt, rExtA, rAsg, rPar, rgName, rgTup, rgCons, rgNil, rVar, rVarW, rC, rOp, rUn, rFn, aNil, aCons, rTupM, rLstM, rIf, tB', tAndM, tOrM, tNotM, rAndV, rOrV, rNotV, rChain, kAdd, kSub, kMul, kDiv, kMod, kDivN, kModN, kPow, kShl, kCmp, kEq, kNe, kIs, kIsNot, isNoneD, kNeg, kIx, kRev, kLen, kAbs, kMax2, kMin2, kInt, kGcd, kTuple, kList, kRepr, rSl, oNone, oSome, rYes, iSeq, seqP, iRange1, iRange2, iRange3, iEnumA, iZipM, rFor, rLc, wipeE, List.getElem?_cons_zero, List.getElem?_cons_succ, List.set_cons_zero, List.set_cons_succ, List.length_cons, List.length_nil, List.zip_cons_cons, List.zip_nil_right, List.foldl_cons, List.foldl_nil, Nat.zero_add, Nat.reduceAdd, decide_eq_true_eq, Bool.not_eq_true', Bool.not_true, Bool.not_false, decide_eq_false_iff_not, Bool.false_eq_true, if_false, if_true, ite_true, ite_false, true_and, and_true, reduceIte, ↓reduceIte, Sl.f.injEq, rAsgO, rgNameO, rParO, setK, kRepL, rStore, kGet3, kRevA, rgLst, kRep, aStar, rPop1, rPopA, rBrk, rCnt, ix_two, ix_three, shp1, shp2, shp3, eqv2, eqv3, kIsTup, kIsLst, kIsInt, kIsBool, kIsStr, kIsDict, kJoin, kRepL, kAddL, rStore, rStoreI, kStr, kGet3, kRevA, rgLst, kRep, iZipX, aStar, rPop1, rPopA, rBrk, rCnt, List.dropLast_concat, List.getLast?_append, List.getLast?_singleton, Option.some_or, rAsgO, rgNameO, rParO, setK, Nat.reduceEqDiff, ix_zero, ix_one, ix_last, kInN, kIn, kNotIn, rLRg1, rLRg2, kInD, kInX, rIndexM, kReprE, kEqZ, kNeZ, kRepS, rSlStr, rExtA, flatD, List.all_cons, List.all_nil, Bool.and_self, Bool.and_true, List.any_cons, List.any_nil, not_true_eq_false, Int.zero_add, Nat.zero_le, sz1, sz2, sz3, sz4, sz5, sz6, sz7, sz8, sz9, sz10, sz11, sz12, Int.reduceLT, Int.reduceLE, Nat.reduceLT, Int.reduceAdd, Int.reduceMul, Int.reduceSub, Int.reduceNeg, Int.reducePow, Int.reduceToNat, Int.reduceDiv, Int.reduceMod, Nat.reducePow, decide_true, decide_false, ne_eq, not_false_eq_true, Bool.true_eq_false, if_true, if_false, q_r_judge_place_8, S_is_fraction_above, S_tree_sons])
local macro_rules | `(tactic| walk_at "judge_place0") => `(tactic| simp only [rSeq, rSet, rSetO, rRet, rRetN, rPass_nx, rDrop, rIte, rFrz, rApp, rExt, rExtA, rAsg, rPar, rgName, rgTup, rgCons, rgNil, rVar, rVarW, rC, rOp, rUn, rFn, aNil, aCons, rTupM, rLstM, rIf, tB', tAndM, tOrM, tNotM, rAndV, rOrV, rNotV, rChain, kAdd, kSub, kMul, kDiv, kMod, kDivN, kModN, kPow, kShl, kCmp, kEq, kNe, kIs, kIsNot, isNoneD, kNeg, kIx, kRev, kLen, kAbs, kMax2, kMin2, kInt, kGcd, kTuple, kList, kRepr, rSl, oNone, oSome, rYes, iSeq, seqP, iRange1, iRange2, iRange3, iEnumA, iZipM, rFor, rLc, wipeE, List.getElem?_cons_zero, List.getElem?_cons_succ, List.set_cons_zero, List.set_cons_succ, List.length_cons, List.length_nil, List.zip_cons_cons, List.zip_nil_right, List.foldl_cons, List.foldl_nil, Nat.zero_add, Nat.reduceAdd, decide_eq_true_eq, Bool.not_eq_true', Bool.not_true, Bool.not_false, decide_eq_false_iff_not, Bool.false_eq_true, if_false, if_true, ite_true, ite_false, true_and, and_true, reduceIte, ↓reduceIte, Sl.f.injEq, rAsgO, rgNameO, rParO, setK, kRepL, rStore, kGet3, kRevA, rgLst, kRep, aStar, rPop1, rPopA, rBrk, rCnt, ix_two, ix_three, shp1, shp2, shp3, eqv2, eqv3, kIsTup, kIsLst, kIsInt, kIsBool, kIsStr, kIsDict, kJoin, kRepL, kAddL, rStore, rStoreI, kStr, kGet3, kRevA, rgLst, kRep, iZipX, aStar, rPop1, rPopA, rBrk, rCnt, List.dropLast_concat, List.getLast?_append, List.getLast?_singleton, Option.some_or, rAsgO, rgNameO, rParO, setK, Nat.reduceEqDiff, ix_zero, ix_one, ix_last, kInN, kIn, kNotIn, rLRg1, rLRg2, kInD, kInX, rIndexM, kReprE, kEqZ, kNeZ, kRepS, rSlStr, rExtA, flatD, List.all_cons, List.all_nil, Bool.and_self, Bool.and_true, List.any_cons, List.any_nil, not_true_eq_false, Int.zero_add, Nat.zero_le, sz1, sz2, sz3, sz4, sz5, sz6, sz7, sz8, sz9, sz10, sz11, sz12, Int.reduceLT, Int.reduceLE, Nat.reduceLT, Int.reduceAdd, Int.reduceMul, Int.reduceSub, Int.reduceNeg, Int.reducePow, Int.reduceToNat, Int.reduceDiv, Int.reduceMod, Nat.reducePow, decide_true, decide_false, ne_eq, not_false_eq_true, Bool.true_eq_false, if_true, if_false, S_is_fraction_above, S_tree_sons])
def toP : PyData → Int × Int
  | .tuple [.int a, .int b] => (a, b)
  | _ => (0, 0)
def sonB (L : List (Int × Int)) (j : Nat) : Bool := decide (L.getD (j + 1) (0, 0) = ((L.getD j (0, 0)).1, (L.getD j (0, 0)).1 + (L.getD j (0, 0)).2)) || decide (L.getD (j + 1) (0, 0) = ((L.getD j (0, 0)).1 + (L.getD j (0, 0)).2, (L.getD j (0, 0)).2))
def snL (L : List (Int × Int)) : Option Nat := (List.range (L.length - 1)).find? fun j => !sonB L j
def fF : PyData := .tuple [.str "form"]
def jpD (x : Int × Int) (L : List (Int × Int)) : PyData := if L.getD 0 (0, 0) = (1, 1) then (match snL L with | some j => .tuple [.str "son", .int ((j + 1 : Nat) : Int)] | none => if L.getD (L.length - 1) (0, 0) = x then .none else .tuple [.str "last"]) else .tuple [.str "first"]
def jp (x : Int × Int) : PyData → PyData
  | .tuple ds => if ds.isEmpty = false ∧ ds.all frB = true then jpD x (ds.map toP) else fF
  | _ => fF
theorem fr_list {ds : List PyData} (h : ds.all frB = true) : ∃ L : List (Int × Int), ds = L.map pF := by
  induction ds with
  | nil => exact ⟨[], rfl⟩
  | cons x l ih =>
    rw [List.all_cons, Bool.and_eq_true] at h
    obtain ⟨L, rfl⟩ := ih h.2
    have hx := h.1
    unfold frB at hx
    split at hx
    · rename_i a b
      exact ⟨(a, b) :: L, rfl⟩
    · cases hx
theorem toP_map (L : List (Int × Int)) : (L.map pF).map toP = L := by rw [List.map_map]; exact List.map_id L
theorem at_pF (L : List (Int × Int)) {i : Nat} (h : i < L.length) : atI (L.map pF) (i : Int) = some (pF (L.getD i (0, 0))) := by
  refine atI_nat ?_
  rw [List.getElem?_map, List.getElem?_eq_getElem h, List.getD_eq_getElem?_getD, List.getElem?_eq_getElem h]; rfl
theorem pF_eqv (x y : Int × Int) : PyData.eqv (pF x) (pF y) = decide (x = y) := by
  obtain ⟨a, b⟩ := x
  obtain ⟨c, d⟩ := y
  unfold pF
  rw [eqv2]
  exact decide_eq_decide.mpr (by simp)
theorem pF_sh (x : Int × Int) : SeqAt.shaped (pF x) = true := shp2 _ _
theorem two_sh (x y : Int × Int) : SeqAt.shaped (.tuple [pF x, pF y]) = true := by
  unfold pF
  simp [SeqAt.shaped, PyData.canLay0, PyData.canLayAll0, PyData.depth, PyData.depthAll]
theorem sn_some {L : List (Int × Int)} {j : Nat} (hj : j + 1 < L.length) (h1 : sonB L j = false) (h2 : ∀ i, i < j → sonB L i = true) : snL L = some j := by
  unfold snL
  rw [List.find?_range_eq_some]
  refine ⟨by rw [h1]; rfl, List.mem_range.mpr (by omega), fun i hi => by rw [h2 i hi]; rfl⟩
theorem sn_none {L : List (Int × Int)} (h2 : ∀ i, i < L.length - 1 → sonB L i = true) : snL L = none := by
  unfold snL
  rw [List.find?_eq_none]
  intro i hi
  rw [h2 i (List.mem_range.mp hi)]
  decide
def S_judge_place : KC := fun ds P => match ds with
  | [.tuple [.int p, .int q], d] => Vk W30 (10 ^ 21) 20000 10 d ∧ P (jp (p, q) d)
  | _ => False
theorem pF_eq (x : Int × Int) : pF x = .tuple [.int x.1, .int x.2] := rfl
theorem at_last (L : List (Int × Int)) (h : 0 < L.length) : atI (L.map pF) (-1) = some (pF (L.getD (L.length - 1) (0, 0))) := by
  have e : ixN (L.map pF).length (-1) = some (L.length - 1) := by
    unfold ixN
    rw [List.length_map, if_neg (by decide), if_pos (by omega)]
    congr 1
    omega
  unfold atI
  rw [e]
  show (L.map pF)[L.length - 1]? = _
  rw [List.getElem?_map, List.getElem?_eq_getElem (by omega : L.length - 1 < L.length), List.getD_eq_getElem?_getD, List.getElem?_eq_getElem (by omega : L.length - 1 < L.length)]; rfl
theorem S_judge_place_ok : ∀ ds P, S_judge_place ds P → B_judge_place ds P := by
  intro ds P h
  unfold S_judge_place at h
  split at h
  · rename_i p q d
    obtain ⟨hv, hP⟩ := h
    refine ⟨rfl, ?_⟩
    show r_judge_place_8 [.f (.tuple [.int p, .int q]), .f d, .u, .u] _
    unfold r_judge_place_8
    have no : ∀ {d : PyData} {M : ME}, M.rt = P → P fF → r_judge_place_1 [.f (.tuple [.int p, .int q]), .f d, .u, .u] M := fun {d M} e h => by
      unfold r_judge_place_1
      walk_at "judge_place0"
      rw [e]
      exact h
    cases d with
    | dict ds =>
      obtain rfl := gB_dict hv.g
      walk_at "judge_place0"
      exact no rfl hP
    | tuple ds =>
      walk_at "judge_place0"
      have hlen := (gB_tup hv.g).1
      have ej : jp (p, q) (.tuple ds) = if ds.isEmpty = false ∧ ds.all frB = true then jpD (p, q) (ds.map toP) else fF := rfl
      rw [ej] at hP
      cases he : ds.isEmpty with
      | true =>
        rw [if_pos rfl]
        rw [if_neg (fun z => by rw [he] at z; cases z.1)] at hP
        exact no rfl hP
      | false =>
        rw [if_neg (by decide)]
        refine lc_mapId (fun d => .bool (frB d)) ds (by rw [sizeLine_eq]; omega) (fun u hu Q hQ => ?_) ?_
        · walk_at "judge_place0"
          exact ⟨layE_tup hv.lay u hu, hQ⟩
        refine ⟨ds.map frB, by rw [List.map_map]; rfl, ?_⟩
        dsimp only
        rw [show ((ds.map frB).all id) = ds.all frB by rw [List.all_map]; rfl]
        cases ha : ds.all frB with
        | false =>
          rw [if_pos rfl]
          rw [if_neg (fun z => by rw [ha] at z; cases z.2)] at hP
          exact no rfl hP
        | true =>
          rw [if_neg (by decide)]
          rw [if_pos ⟨he, ha⟩] at hP
          obtain ⟨L, rfl⟩ := fr_list ha
          rw [toP_map] at hP
          rw [List.length_map] at hlen
          have l0 : 0 < L.length := List.length_pos_iff.mpr fun z => by subst z; cases he
          have e11 : PyData.tuple [PyData.int 1, PyData.int 1] = pF (1, 1) := rfl
          have epq : PyData.tuple [PyData.int p, PyData.int q] = pF (p, q) := rfl
          unfold jpD at hP
          unfold r_judge_place_7
          walk_at "judge_place0"
          refine ⟨_, at_pF L l0, ?_⟩
          rw [pF_eq (L.getD 0 (0, 0))]
          walk_at "judge_place0"
          by_cases c0 : L.getD 0 (0, 0) = (1, 1)
          rotate_left
          · rw [if_neg c0] at hP
            rw [if_pos (fun z => c0 (Prod.ext z.1 z.2))]
            unfold r_judge_place_2
            walk_at "judge_place0"
            exact hP
          rw [if_pos c0] at hP
          rw [if_neg (fun z => z (by rw [c0]; exact ⟨rfl, rfl⟩))]
          unfold r_judge_place_6
          walk_at "judge_place0"
          rw [List.length_map, show ((L.length : Int) - 1).toNat = L.length - 1 by omega]
          refine ⟨by omega, ?_⟩
          refine for_rng 1 (L.length - 1) (fun j e => ∃ a2 : Sl, e = [.f (.tuple [.int p, .int q]), .f (.tuple (L.map pF)), a2, .u] ∧ ∀ i, i < j → sonB L i = true) ⟨_, rfl, fun i hi => absurd hi (by omega)⟩ (fun j e hj hE M' hnx hct hrt hbk => ?_) fun e hE => ?_
          · obtain ⟨a2, rfl, hs⟩ := hE
            rw [show 1 + (j : Int) = ((j + 1 : Nat) : Int) by omega]
            unfold r_judge_place_4
            walk_at "judge_place0"
            refine ⟨_, at_pF L (by omega), ?_⟩
            rw [show ((j + 1 : Nat) : Int) - 1 = (j : Int) by omega]
            refine ⟨_, at_pF L (by omega), ?_⟩
            have es : sonB L j = (decide (L.getD (j + 1) (0, 0) = ((L.getD j (0, 0)).1, (L.getD j (0, 0)).1 + (L.getD j (0, 0)).2)) || decide (L.getD (j + 1) (0, 0) = ((L.getD j (0, 0)).1 + (L.getD j (0, 0)).2, (L.getD j (0, 0)).2))) := rfl
            have h1 := hs
            rw [pF_eq (L.getD j (0, 0))]
            dsimp only
            refine ⟨pF_sh _, two_sh ((L.getD j (0, 0)).1, (L.getD j (0, 0)).1 + (L.getD j (0, 0)).2) ((L.getD j (0, 0)).1 + (L.getD j (0, 0)).2, (L.getD j (0, 0)).2), ?_⟩
            rw [← pF_eq ((L.getD j (0, 0)).1, (L.getD j (0, 0)).1 + (L.getD j (0, 0)).2), ← pF_eq ((L.getD j (0, 0)).1 + (L.getD j (0, 0)).2, (L.getD j (0, 0)).2), pF_eqv, pF_eqv, Bool.or_false]
            have e2 : (decide (((L.getD j (0, 0)).1, (L.getD j (0, 0)).1 + (L.getD j (0, 0)).2) = L.getD (j + 1) (0, 0)) || decide (((L.getD j (0, 0)).1 + (L.getD j (0, 0)).2, (L.getD j (0, 0)).2) = L.getD (j + 1) (0, 0))) = sonB L j := by
              rw [es]
              congr 1
              · exact decide_eq_decide.mpr ⟨Eq.symm, Eq.symm⟩
              · exact decide_eq_decide.mpr ⟨Eq.symm, Eq.symm⟩
            rw [e2]
            cases hb : sonB L j with
            | true =>
              rw [if_neg (by decide)]
              refine hnx _ ⟨_, rfl, fun i hi => ?_⟩
              by_cases c : i < j
              · exact hs i c
              · have : i = j := by omega
                subst this; exact hb
            | false =>
              rw [if_pos rfl]
              rw [sn_some (by omega) hb hs] at hP
              unfold r_judge_place_3
              walk_at "judge_place0"
              rw [hrt]
              exact hP
          · obtain ⟨a2, rfl, hs⟩ := hE
            rw [sn_none hs] at hP
            dsimp only at hP
            unfold r_judge_place_5
            walk_at "judge_place0"
            refine ⟨_, at_last L l0, pF_sh _, ?_⟩
            rw [epq, pF_eqv]
            by_cases c : L.getD (L.length - 1) (0, 0) = (p, q)
            · rw [if_pos c] at hP
              rw [decide_eq_true c, if_neg (by decide)]
              exact hP
            · rw [if_neg c] at hP
              rw [decide_eq_false c, if_pos rfl]
              exact hP
    | _ => walk_at "judge_place0"; exact no rfl hP
  · exact h.elim
abbrev S_law_open_cells : KC := SOp
abbrev S_law_pick : KC := SPk
/-! _law_of(source, some): slots 0 source, 1 some -/
def r_law_of_1 : RS := (rRet (rOp kIx (rVarW 1) (rFn S_law_pick (aCons (rVar 0) (aCons (rFn kLen (aCons (rVarW 1) aNil)) aNil)))))
theorem q_r_law_of_1 (x : Sl) (xs : En) (M : ME) : r_law_of_1 (x :: xs) M = ((rRet (rOp kIx (rVarW 1) (rFn S_law_pick (aCons (rVar 0) (aCons (rFn kLen (aCons (rVarW 1) aNil)) aNil)))))) (x :: xs) M := rfl
def B_law_of : KC := rDef 2 2 r_law_of_1
local macro_rules | `(tactic| walk_at "law_of") => `(tactic| simp only [rSeq, rSet, rSetO, rRet, rRetN, rPass_nx, rDrop, rIte, rFrz, rApp, rExt, rExtA, rAsg, rPar, rgName, rgTup, rgCons, rgNil, rVar, rVarW, rC, rOp, rUn, rFn, aNil, aCons, rTupM, rLstM, rIf, tB', tAndM, tOrM, tNotM, rAndV, rOrV, rNotV, rChain, kAdd, kSub, kMul, kDiv, kMod, kDivN, kModN, kPow, kShl, kCmp, kEq, kNe, kIs, kIsNot, isNoneD, kNeg, kIx, kRev, kLen, kAbs, kMax2, kMin2, kInt, kGcd, kTuple, kList, kRepr, rSl, oNone, oSome, rYes, iSeq, seqP, iRange1, iRange2, iRange3, iEnumA, iZipM, rFor, rLc, wipeE, List.getElem?_cons_zero, List.getElem?_cons_succ, List.set_cons_zero, List.set_cons_succ, List.length_cons, List.length_nil, List.zip_cons_cons, List.zip_nil_right, List.foldl_cons, List.foldl_nil, Nat.zero_add, Nat.reduceAdd, decide_eq_true_eq, Bool.not_eq_true', Bool.not_true, Bool.not_false, decide_eq_false_iff_not, Bool.false_eq_true, if_false, if_true, ite_true, ite_false, true_and, and_true, reduceIte, ↓reduceIte, Sl.f.injEq, rAsgO, rgNameO, rParO, setK, kRepL, rStore, kGet3, kRevA, rgLst, kRep, aStar, rPop1, rPopA, rBrk, rCnt, ix_two, ix_three, shp1, shp2, shp3, eqv2, eqv3, kIsTup, kIsLst, kIsInt, kIsBool, kIsStr, kIsDict, kJoin, kRepL, kAddL, rStore, rStoreI, kStr, kGet3, kRevA, rgLst, kRep, iZipX, aStar, rPop1, rPopA, rBrk, rCnt, List.dropLast_concat, List.getLast?_append, List.getLast?_singleton, Option.some_or, rAsgO, rgNameO, rParO, setK, Nat.reduceEqDiff, ix_zero, ix_one, ix_last, kInN, kIn, kNotIn, rLRg1, rLRg2, kInD, kInX, rIndexM, kReprE, kEqZ, kNeZ, kRepS, rSlStr, rExtA, flatD, List.all_cons, List.all_nil, Bool.and_self, Bool.and_true, List.any_cons, List.any_nil, not_true_eq_false, Int.zero_add, Nat.zero_le, sz1, sz2, sz3, sz4, sz5, sz6, sz7, sz8, sz9, sz10, sz11, sz12, Int.reduceLT, Int.reduceLE, Nat.reduceLT, Int.reduceAdd, Int.reduceMul, Int.reduceSub, Int.reduceNeg, Int.reducePow, Int.reduceToNat, Int.reduceDiv, Int.reduceMod, Nat.reducePow, decide_true, decide_false, ne_eq, not_false_eq_true, Bool.true_eq_false, if_true, if_false, q_r_law_of_1, S_law_pick, SPk])
local macro_rules | `(tactic| walk_at "law_of0") => `(tactic| simp only [rSeq, rSet, rSetO, rRet, rRetN, rPass_nx, rDrop, rIte, rFrz, rApp, rExt, rExtA, rAsg, rPar, rgName, rgTup, rgCons, rgNil, rVar, rVarW, rC, rOp, rUn, rFn, aNil, aCons, rTupM, rLstM, rIf, tB', tAndM, tOrM, tNotM, rAndV, rOrV, rNotV, rChain, kAdd, kSub, kMul, kDiv, kMod, kDivN, kModN, kPow, kShl, kCmp, kEq, kNe, kIs, kIsNot, isNoneD, kNeg, kIx, kRev, kLen, kAbs, kMax2, kMin2, kInt, kGcd, kTuple, kList, kRepr, rSl, oNone, oSome, rYes, iSeq, seqP, iRange1, iRange2, iRange3, iEnumA, iZipM, rFor, rLc, wipeE, List.getElem?_cons_zero, List.getElem?_cons_succ, List.set_cons_zero, List.set_cons_succ, List.length_cons, List.length_nil, List.zip_cons_cons, List.zip_nil_right, List.foldl_cons, List.foldl_nil, Nat.zero_add, Nat.reduceAdd, decide_eq_true_eq, Bool.not_eq_true', Bool.not_true, Bool.not_false, decide_eq_false_iff_not, Bool.false_eq_true, if_false, if_true, ite_true, ite_false, true_and, and_true, reduceIte, ↓reduceIte, Sl.f.injEq, rAsgO, rgNameO, rParO, setK, kRepL, rStore, kGet3, kRevA, rgLst, kRep, aStar, rPop1, rPopA, rBrk, rCnt, ix_two, ix_three, shp1, shp2, shp3, eqv2, eqv3, kIsTup, kIsLst, kIsInt, kIsBool, kIsStr, kIsDict, kJoin, kRepL, kAddL, rStore, rStoreI, kStr, kGet3, kRevA, rgLst, kRep, iZipX, aStar, rPop1, rPopA, rBrk, rCnt, List.dropLast_concat, List.getLast?_append, List.getLast?_singleton, Option.some_or, rAsgO, rgNameO, rParO, setK, Nat.reduceEqDiff, ix_zero, ix_one, ix_last, kInN, kIn, kNotIn, rLRg1, rLRg2, kInD, kInX, rIndexM, kReprE, kEqZ, kNeZ, kRepS, rSlStr, rExtA, flatD, List.all_cons, List.all_nil, Bool.and_self, Bool.and_true, List.any_cons, List.any_nil, not_true_eq_false, Int.zero_add, Nat.zero_le, sz1, sz2, sz3, sz4, sz5, sz6, sz7, sz8, sz9, sz10, sz11, sz12, Int.reduceLT, Int.reduceLE, Nat.reduceLT, Int.reduceAdd, Int.reduceMul, Int.reduceSub, Int.reduceNeg, Int.reducePow, Int.reduceToNat, Int.reduceDiv, Int.reduceMod, Nat.reducePow, decide_true, decide_false, ne_eq, not_false_eq_true, Bool.true_eq_false, if_true, if_false, S_law_pick, SPk])
def S_law_of : KC := fun ds P => match ds with
  | [d, .list ds] => d = srcD ∧ 0 < ds.length ∧ ds.length ≤ 1000 ∧ ∀ x ∈ ds, P x
  | _ => False
theorem S_law_of_ok : ∀ ds P, S_law_of ds P → B_law_of ds P := by
  intro ds P h
  unfold S_law_of at h
  split at h
  · rename_i d ds
    obtain ⟨rfl, h0, h1, hP⟩ := h
    refine ⟨rfl, ?_⟩
    show r_law_of_1 [.f srcD, .f (.list ds)] _
    walk_at "law_of"
    walk_at "adv"
    intro r r0 r1
    obtain ⟨i, rfl⟩ := Int.eq_ofNat_of_zero_le r0
    have hi : i < ds.length := by omega
    exact ⟨ds[i], atI_nat (List.getElem?_eq_getElem hi), hP _ (List.getElem_mem hi)⟩
  · exact h.elim
/-! _law_is_int(value): slots 0 value -/
def r_law_is_int_1 : RS := (rRet (rAndV (rUn kIsInt (rVarW 0)) (rNotV (rUn kIsBool (rVarW 0)))))
theorem q_r_law_is_int_1 (x : Sl) (xs : En) (M : ME) : r_law_is_int_1 (x :: xs) M = ((rRet (rAndV (rUn kIsInt (rVarW 0)) (rNotV (rUn kIsBool (rVarW 0)))))) (x :: xs) M := rfl
def B_law_is_int : KC := rDef 1 1 r_law_is_int_1
local macro_rules | `(tactic| walk_at "law_is_int") => `(tactic| simp only [rSeq, rSet, rSetO, rRet, rRetN, rPass_nx, rDrop, rIte, rFrz, rApp, rExt, rExtA, rAsg, rPar, rgName, rgTup, rgCons, rgNil, rVar, rVarW, rC, rOp, rUn, rFn, aNil, aCons, rTupM, rLstM, rIf, tB', tAndM, tOrM, tNotM, rAndV, rOrV, rNotV, rChain, kAdd, kSub, kMul, kDiv, kMod, kDivN, kModN, kPow, kShl, kCmp, kEq, kNe, kIs, kIsNot, isNoneD, kNeg, kIx, kRev, kLen, kAbs, kMax2, kMin2, kInt, kGcd, kTuple, kList, kRepr, rSl, oNone, oSome, rYes, iSeq, seqP, iRange1, iRange2, iRange3, iEnumA, iZipM, rFor, rLc, wipeE, List.getElem?_cons_zero, List.getElem?_cons_succ, List.set_cons_zero, List.set_cons_succ, List.length_cons, List.length_nil, List.zip_cons_cons, List.zip_nil_right, List.foldl_cons, List.foldl_nil, Nat.zero_add, Nat.reduceAdd, decide_eq_true_eq, Bool.not_eq_true', Bool.not_true, Bool.not_false, decide_eq_false_iff_not, Bool.false_eq_true, if_false, if_true, ite_true, ite_false, true_and, and_true, reduceIte, ↓reduceIte, Sl.f.injEq, rAsgO, rgNameO, rParO, setK, kRepL, rStore, kGet3, kRevA, rgLst, kRep, aStar, rPop1, rPopA, rBrk, rCnt, ix_two, ix_three, shp1, shp2, shp3, eqv2, eqv3, kIsTup, kIsLst, kIsInt, kIsBool, kIsStr, kIsDict, kJoin, kRepL, kAddL, rStore, rStoreI, kStr, kGet3, kRevA, rgLst, kRep, iZipX, aStar, rPop1, rPopA, rBrk, rCnt, List.dropLast_concat, List.getLast?_append, List.getLast?_singleton, Option.some_or, rAsgO, rgNameO, rParO, setK, Nat.reduceEqDiff, ix_zero, ix_one, ix_last, kInN, kIn, kNotIn, rLRg1, rLRg2, kInD, kInX, rIndexM, kReprE, kEqZ, kNeZ, kRepS, rSlStr, rExtA, flatD, List.all_cons, List.all_nil, Bool.and_self, Bool.and_true, List.any_cons, List.any_nil, not_true_eq_false, Int.zero_add, Nat.zero_le, sz1, sz2, sz3, sz4, sz5, sz6, sz7, sz8, sz9, sz10, sz11, sz12, Int.reduceLT, Int.reduceLE, Nat.reduceLT, Int.reduceAdd, Int.reduceMul, Int.reduceSub, Int.reduceNeg, Int.reducePow, Int.reduceToNat, Int.reduceDiv, Int.reduceMod, Nat.reducePow, decide_true, decide_false, ne_eq, not_false_eq_true, Bool.true_eq_false, if_true, if_false, q_r_law_is_int_1])
local macro_rules | `(tactic| walk_at "law_is_int0") => `(tactic| simp only [rSeq, rSet, rSetO, rRet, rRetN, rPass_nx, rDrop, rIte, rFrz, rApp, rExt, rExtA, rAsg, rPar, rgName, rgTup, rgCons, rgNil, rVar, rVarW, rC, rOp, rUn, rFn, aNil, aCons, rTupM, rLstM, rIf, tB', tAndM, tOrM, tNotM, rAndV, rOrV, rNotV, rChain, kAdd, kSub, kMul, kDiv, kMod, kDivN, kModN, kPow, kShl, kCmp, kEq, kNe, kIs, kIsNot, isNoneD, kNeg, kIx, kRev, kLen, kAbs, kMax2, kMin2, kInt, kGcd, kTuple, kList, kRepr, rSl, oNone, oSome, rYes, iSeq, seqP, iRange1, iRange2, iRange3, iEnumA, iZipM, rFor, rLc, wipeE, List.getElem?_cons_zero, List.getElem?_cons_succ, List.set_cons_zero, List.set_cons_succ, List.length_cons, List.length_nil, List.zip_cons_cons, List.zip_nil_right, List.foldl_cons, List.foldl_nil, Nat.zero_add, Nat.reduceAdd, decide_eq_true_eq, Bool.not_eq_true', Bool.not_true, Bool.not_false, decide_eq_false_iff_not, Bool.false_eq_true, if_false, if_true, ite_true, ite_false, true_and, and_true, reduceIte, ↓reduceIte, Sl.f.injEq, rAsgO, rgNameO, rParO, setK, kRepL, rStore, kGet3, kRevA, rgLst, kRep, aStar, rPop1, rPopA, rBrk, rCnt, ix_two, ix_three, shp1, shp2, shp3, eqv2, eqv3, kIsTup, kIsLst, kIsInt, kIsBool, kIsStr, kIsDict, kJoin, kRepL, kAddL, rStore, rStoreI, kStr, kGet3, kRevA, rgLst, kRep, iZipX, aStar, rPop1, rPopA, rBrk, rCnt, List.dropLast_concat, List.getLast?_append, List.getLast?_singleton, Option.some_or, rAsgO, rgNameO, rParO, setK, Nat.reduceEqDiff, ix_zero, ix_one, ix_last, kInN, kIn, kNotIn, rLRg1, rLRg2, kInD, kInX, rIndexM, kReprE, kEqZ, kNeZ, kRepS, rSlStr, rExtA, flatD, List.all_cons, List.all_nil, Bool.and_self, Bool.and_true, List.any_cons, List.any_nil, not_true_eq_false, Int.zero_add, Nat.zero_le, sz1, sz2, sz3, sz4, sz5, sz6, sz7, sz8, sz9, sz10, sz11, sz12, Int.reduceLT, Int.reduceLE, Nat.reduceLT, Int.reduceAdd, Int.reduceMul, Int.reduceSub, Int.reduceNeg, Int.reducePow, Int.reduceToNat, Int.reduceDiv, Int.reduceMod, Nat.reducePow, decide_true, decide_false, ne_eq, not_false_eq_true, Bool.true_eq_false, if_true, if_false])
abbrev S_law_is_int : KC := B_law_is_int
theorem S_law_is_int_ok : ∀ ds P, S_law_is_int ds P → B_law_is_int ds P := fun _ _ h => h
theorem i_law_is_int (p0 : PyData) (P : RP) : S_law_is_int [p0] P = r_law_is_int_1 [.f p0] { nx := fun _ => P .none, rt := P } := propext ⟨fun h => h.2, fun h => ⟨rfl, h⟩⟩
/-! _law_bent(source, value, odd): slots 0 source, 1 value, 2 odd, 3 k, 4 way -/
def r_law_bent_1 (Xr : KC) : RS := (rRet (rOp kAdd (rVarW 1) (rFn S_law_of (aCons (rVar 0) (aCons (rLstM (aCons (rC (.int 1)) (aCons (rUn kNeg (rC (.int 1))) (aCons (rC (.int 2)) aNil)))) aNil)))))
def r_law_bent_2 (Xr : KC) : RS := (rRet (rFn S_law_of (aCons (rVar 0) (aCons (rVar 2) aNil))))
def r_law_bent_3 (Xr : KC) : RS := (rRet (rOp kAdd (rOp kAdd (rSl (rVarW 1) oNone (oSome (rVarW 3))) (rTupM (aCons (rFn Xr (aCons (rVar 0) (aCons (rOp kIx (rVarW 1) (rVarW 3)) (aCons (rVar 2) aNil)))) aNil))) (rSl (rVarW 1) (oSome (rOp kAdd (rVarW 3) (rC (.int 1)))) oNone)))
def r_law_bent_4 (Xr : KC) : RS := (rRet (rOp kIx (rLstM (aCons (rOp kAdd (rSl (rVarW 1) oNone (oSome (rVarW 3))) (rSl (rVarW 1) (oSome (rOp kAdd (rVarW 3) (rC (.int 1)))) oNone)) (aCons (rOp kAdd (rSl (rVarW 1) oNone (oSome (rOp kAdd (rVarW 3) (rC (.int 1))))) (rSl (rVarW 1) (oSome (rVarW 3)) oNone)) (aCons (rOp kAdd (rSl (rVarW 1) (oSome (rVarW 3)) oNone) (rSl (rVarW 1) oNone (oSome (rVarW 3)))) aNil)))) (rOp kSub (rVarW 4) (rC (.int 5)))))
def r_law_bent_5 (Xr : KC) : RS := rSeq (rIte (tB' (rOp kLt (rVarW 4) (rC (.int 5)))) (r_law_bent_3 Xr) rPass) (r_law_bent_4 Xr)
theorem q_r_law_bent_5 (Xr : KC) (x : Sl) (xs : En) (M : ME) : (r_law_bent_5 Xr) (x :: xs) M = (rSeq (rIte (tB' (rOp kLt (rVarW 4) (rC (.int 5)))) (r_law_bent_3 Xr) rPass) (r_law_bent_4 Xr)) (x :: xs) M := rfl
def r_law_bent_6 (Xr : KC) : RS := rSeq (rPar [3, 4] (aCons (rFn S_law_pick (aCons (rVar 0) (aCons (rFn kLen (aCons (rVarW 1) aNil)) aNil))) (aCons (rFn S_law_pick (aCons (rVar 0) (aCons (rC (.int 8)) aNil))) aNil))) (r_law_bent_5 Xr)
def r_law_bent_7 (Xr : KC) : RS := rSeq (rIte (tOrM (tNotM (tB' (rUn kIsTup (rVarW 1)))) (tOrM (tB' (rOp kEqZ (rVarW 1) (rTupM aNil))) (tB' (rOp kEqZ (rFn S_law_pick (aCons (rVar 0) (aCons (rC (.int 7)) aNil))) (rC (.int 0)))))) (r_law_bent_2 Xr) rPass) (r_law_bent_6 Xr)
def r_law_bent_8 (Xr : KC) : RS := rSeq (rIte (tAndM (tB' (rFn S_law_is_int (aCons (rVar 1) aNil))) (tB' (rOp kGt (rFn S_law_pick (aCons (rVar 0) (aCons (rC (.int 3)) aNil))) (rC (.int 0))))) (r_law_bent_1 Xr) rPass) (r_law_bent_7 Xr)
theorem q_r_law_bent_8 (Xr : KC) (x : Sl) (xs : En) (M : ME) : (r_law_bent_8 Xr) (x :: xs) M = (rSeq (rIte (tAndM (tB' (rFn S_law_is_int (aCons (rVar 1) aNil))) (tB' (rOp kGt (rFn S_law_pick (aCons (rVar 0) (aCons (rC (.int 3)) aNil))) (rC (.int 0))))) (r_law_bent_1 Xr) rPass) (r_law_bent_7 Xr)) (x :: xs) M := rfl
def B_law_bent (Xr : KC) : KC := rDef 3 5 (r_law_bent_8 Xr)
local macro_rules | `(tactic| walk_at "law_bent") => `(tactic| simp only [rSeq, rSet, rSetO, rRet, rRetN, rPass_nx, rDrop, rIte, rFrz, rApp, rExt, rExtA, rAsg, rPar, rgName, rgTup, rgCons, rgNil, rVar, rVarW, rC, rOp, rUn, rFn, aNil, aCons, rTupM, rLstM, rIf, tB', tAndM, tOrM, tNotM, rAndV, rOrV, rNotV, rChain, kAdd, kSub, kMul, kDiv, kMod, kDivN, kModN, kPow, kShl, kCmp, kEq, kNe, kIs, kIsNot, isNoneD, kNeg, kIx, kRev, kLen, kAbs, kMax2, kMin2, kInt, kGcd, kTuple, kList, kRepr, rSl, oNone, oSome, rYes, iSeq, seqP, iRange1, iRange2, iRange3, iEnumA, iZipM, rFor, rLc, wipeE, List.getElem?_cons_zero, List.getElem?_cons_succ, List.set_cons_zero, List.set_cons_succ, List.length_cons, List.length_nil, List.zip_cons_cons, List.zip_nil_right, List.foldl_cons, List.foldl_nil, Nat.zero_add, Nat.reduceAdd, decide_eq_true_eq, Bool.not_eq_true', Bool.not_true, Bool.not_false, decide_eq_false_iff_not, Bool.false_eq_true, if_false, if_true, ite_true, ite_false, true_and, and_true, reduceIte, ↓reduceIte, Sl.f.injEq, rAsgO, rgNameO, rParO, setK, kRepL, rStore, kGet3, kRevA, rgLst, kRep, aStar, rPop1, rPopA, rBrk, rCnt, ix_two, ix_three, shp1, shp2, shp3, eqv2, eqv3, kIsTup, kIsLst, kIsInt, kIsBool, kIsStr, kIsDict, kJoin, kRepL, kAddL, rStore, rStoreI, kStr, kGet3, kRevA, rgLst, kRep, iZipX, aStar, rPop1, rPopA, rBrk, rCnt, List.dropLast_concat, List.getLast?_append, List.getLast?_singleton, Option.some_or, rAsgO, rgNameO, rParO, setK, Nat.reduceEqDiff, ix_zero, ix_one, ix_last, kInN, kIn, kNotIn, rLRg1, rLRg2, kInD, kInX, rIndexM, kReprE, kEqZ, kNeZ, kRepS, rSlStr, rExtA, flatD, List.all_cons, List.all_nil, Bool.and_self, Bool.and_true, List.any_cons, List.any_nil, not_true_eq_false, Int.zero_add, Nat.zero_le, sz1, sz2, sz3, sz4, sz5, sz6, sz7, sz8, sz9, sz10, sz11, sz12, Int.reduceLT, Int.reduceLE, Nat.reduceLT, Int.reduceAdd, Int.reduceMul, Int.reduceSub, Int.reduceNeg, Int.reducePow, Int.reduceToNat, Int.reduceDiv, Int.reduceMod, Nat.reducePow, decide_true, decide_false, ne_eq, not_false_eq_true, Bool.true_eq_false, if_true, if_false, q_r_law_bent_5, q_r_law_bent_8, S_law_pick, SPk, i_law_is_int, q_r_law_is_int_1, S_law_of])
local macro_rules | `(tactic| walk_at "law_bent0") => `(tactic| simp only [rSeq, rSet, rSetO, rRet, rRetN, rPass_nx, rDrop, rIte, rFrz, rApp, rExt, rExtA, rAsg, rPar, rgName, rgTup, rgCons, rgNil, rVar, rVarW, rC, rOp, rUn, rFn, aNil, aCons, rTupM, rLstM, rIf, tB', tAndM, tOrM, tNotM, rAndV, rOrV, rNotV, rChain, kAdd, kSub, kMul, kDiv, kMod, kDivN, kModN, kPow, kShl, kCmp, kEq, kNe, kIs, kIsNot, isNoneD, kNeg, kIx, kRev, kLen, kAbs, kMax2, kMin2, kInt, kGcd, kTuple, kList, kRepr, rSl, oNone, oSome, rYes, iSeq, seqP, iRange1, iRange2, iRange3, iEnumA, iZipM, rFor, rLc, wipeE, List.getElem?_cons_zero, List.getElem?_cons_succ, List.set_cons_zero, List.set_cons_succ, List.length_cons, List.length_nil, List.zip_cons_cons, List.zip_nil_right, List.foldl_cons, List.foldl_nil, Nat.zero_add, Nat.reduceAdd, decide_eq_true_eq, Bool.not_eq_true', Bool.not_true, Bool.not_false, decide_eq_false_iff_not, Bool.false_eq_true, if_false, if_true, ite_true, ite_false, true_and, and_true, reduceIte, ↓reduceIte, Sl.f.injEq, rAsgO, rgNameO, rParO, setK, kRepL, rStore, kGet3, kRevA, rgLst, kRep, aStar, rPop1, rPopA, rBrk, rCnt, ix_two, ix_three, shp1, shp2, shp3, eqv2, eqv3, kIsTup, kIsLst, kIsInt, kIsBool, kIsStr, kIsDict, kJoin, kRepL, kAddL, rStore, rStoreI, kStr, kGet3, kRevA, rgLst, kRep, iZipX, aStar, rPop1, rPopA, rBrk, rCnt, List.dropLast_concat, List.getLast?_append, List.getLast?_singleton, Option.some_or, rAsgO, rgNameO, rParO, setK, Nat.reduceEqDiff, ix_zero, ix_one, ix_last, kInN, kIn, kNotIn, rLRg1, rLRg2, kInD, kInX, rIndexM, kReprE, kEqZ, kNeZ, kRepS, rSlStr, rExtA, flatD, List.all_cons, List.all_nil, Bool.and_self, Bool.and_true, List.any_cons, List.any_nil, not_true_eq_false, Int.zero_add, Nat.zero_le, sz1, sz2, sz3, sz4, sz5, sz6, sz7, sz8, sz9, sz10, sz11, sz12, Int.reduceLT, Int.reduceLE, Nat.reduceLT, Int.reduceAdd, Int.reduceMul, Int.reduceSub, Int.reduceNeg, Int.reducePow, Int.reduceToNat, Int.reduceDiv, Int.reduceMod, Nat.reducePow, decide_true, decide_false, ne_eq, not_false_eq_true, Bool.true_eq_false, if_true, if_false, S_law_pick, SPk, i_law_is_int, q_r_law_is_int_1, S_law_of])
def B30 : Nat := 10 ^ 21
def lb : Nat → Nat
  | 0 => 2
  | _ => 400
def szN : Nat → Nat
  | 0 => 10
  | n + 1 => (szN n + 1) * (lb n + 1)
/-- values that come out -/
def NV (n : Nat) (d : PyData) : Prop := Vk W30 (10 ^ 21) (szN n) (3 + n) d
/-- values that may be bent -/
def NL (d : PyData) : Prop := ∃ i : Int, d = .int i ∧ i.natAbs ≤ 10 ^ 20
def NI : Nat → PyData → Prop
  | 0, d => NL d
  | n + 1, d => NL d ∨ ∃ ds, d = .tuple ds ∧ ds.length ≤ lb n ∧ ∀ u ∈ ds, NI n u
theorem lb_le (n : Nat) : 2 ≤ lb n ∧ lb n ≤ 400 := by cases n <;> simp [lb]
theorem nv_up {n : Nat} {d : PyData} (h : NV n d) : NV (n + 1) d := h.mono (by
  have := lb_le n
  show szN n ≤ (szN n + 1) * (lb n + 1)
  have : szN n + 1 ≤ (szN n + 1) * (lb n + 1) := Nat.le_mul_of_pos_right _ (by omega)
  omega) (by omega)
theorem nv_0 {d : PyData} (h : NV 0 d) : ∀ n, NV n d
  | 0 => h
  | n + 1 => nv_up (nv_0 h n)
theorem nv_tup {n : Nat} {ds : List PyData} (hl : ds.length ≤ lb n + 1) (h : ∀ u ∈ ds, NV n u) : NV (n + 1) (.tuple ds) :=
  Vk.tup (m := lb n + 1) h hl (by have := lb_le n; omega) (Nat.le_refl _)
theorem nv_int {i : Int} (h : i.natAbs ≤ 10 ^ 21) : NV 0 (.int i) := (Vk.int h (by decide)).mono (by decide) (by decide)
theorem ni0_nv {d : PyData} (h : NL d) : NV 0 d := by
  obtain ⟨i, rfl, hi⟩ := h
  exact nv_int (Nat.le_trans hi (by decide))
theorem ni_nv : ∀ {n : Nat} {d : PyData}, NI n d → NV n d
  | 0, _, h => ni0_nv h
  | n + 1, _, .inl h => nv_0 (ni0_nv h) _
  | n + 1, _, .inr ⟨ds, e, hl, h⟩ => by
    subst e
    exact nv_tup (by omega) fun u hu => ni_nv (h u hu)
theorem ni_cases {n : Nat} {d : PyData} (h : NI n d) : NL d ∨ ∃ m ds, n = m + 1 ∧ d = .tuple ds ∧ ds.length ≤ lb m ∧ ∀ u ∈ ds, NI m u := by
  cases n with
  | zero => exact .inl h
  | succ m =>
    rcases h with h | ⟨ds, e, hl, h⟩
    · exact .inl h
    · exact .inr ⟨m, ds, rfl, e, hl, h⟩
def S_law_bent (n : Nat) : KC := fun ds P => match ds with
  | [d, v, .list os] => d = srcD ∧ (0 < os.length ∧ os.length ≤ 1000) ∧ (∀ x ∈ os, NV 0 x) ∧ (0 < n ∧ n ≤ 40 ∧ NI (n - 1) v) ∧ ∀ r, NV (n - 1) r → P r
  | _ => False
theorem S_law_bent_no : ∀ ds P, ¬ S_law_bent 0 ds P := by
  intro ds P h
  unfold S_law_bent at h
  split at h
  · obtain ⟨_, _, _, ⟨h, _⟩, _⟩ := h
    omega
  · exact h
theorem S_law_bent_ok : ∀ n ds P, S_law_bent (n + 1) ds P → B_law_bent (S_law_bent n) ds P := by
  intro n ds P h
  unfold S_law_bent at h
  split at h
  · rename_i d v os
    obtain ⟨rfl, ⟨o0, o1⟩, ho, ⟨_, n40, hv⟩, hP⟩ := h
    rw [Nat.add_sub_cancel] at hv hP
    refine ⟨rfl, ?_⟩
    show (r_law_bent_8 (S_law_bent n)) [.f srcD, .f v, .f (.list os), .u, .u] _
    unfold r_law_bent_8
    have odd : ∀ {a3 a4 : Sl} {M : ME}, M.rt = P → r_law_bent_2 (S_law_bent n) [.f srcD, .f v, .f (.list os), a3, a4] M := by
      intro a3 a4 M e
      unfold r_law_bent_2
      walk_at "law_bent0"
      refine ⟨o0, o1, fun x hx => ?_⟩
      rw [e]
      exact hP _ (nv_0 (ho x hx) n)
    rcases ni_cases hv with ⟨i, rfl, hi⟩ | ⟨m, ds, rfl, rfl, hl, hd⟩
    · walk_at "law_bent0"
      refine ⟨by decide, fun x x0 x1 => ?_⟩
      by_cases c : 0 < x
      · rw [if_pos c]
        unfold r_law_bent_1
        walk_at "law_bent0"
        refine ⟨by decide, fun y hy => ?_⟩
        simp only [List.mem_cons, List.not_mem_nil, or_false] at hy
        rcases hy with rfl | rfl | rfl
        all_goals
          walk_at "law_bent0"
          exact hP _ (nv_0 (nv_int (by omega)) n)
      · rw [if_neg c]
        unfold r_law_bent_7
        walk_at "law_bent0"
        exact odd rfl
    · have l2 := lb_le m
      walk_at "law_bent0"
      unfold r_law_bent_7
      walk_at "law_bent0"
      by_cases hz : ds.isEmpty = true
      · rw [if_pos hz]
        exact odd rfl
      rw [if_neg hz]
      have hpos : 0 < ds.length := List.length_pos_iff.mpr fun z => hz (by rw [z]; rfl)
      refine ⟨by decide, fun w w0 w1 => ?_⟩
      by_cases c : w = 0
      · rw [if_pos c]
        exact odd rfl
      rw [if_neg c]
      unfold r_law_bent_6
      walk_at "law_bent0"
      refine ⟨by omega, fun k k0 k1 => ?_⟩
      obtain ⟨q, rfl⟩ := Int.eq_ofNat_of_zero_le k0
      refine ⟨by decide, fun y y0 y1 => ?_⟩
      have hq : q < ds.length := by omega
      have tk : ∀ u ∈ ds.take q, NV m u := fun u hu => ni_nv (hd u (List.mem_of_mem_take hu))
      have dk : ∀ u ∈ ds.drop (q + 1), NV m u := fun u hu => ni_nv (hd u (List.mem_of_mem_drop hu))
      have al : ∀ u ∈ ds, NV m u := fun u hu => ni_nv (hd u hu)
      unfold r_law_bent_5
      walk_at "law_bent0"
      by_cases c2 : y < 5
      · rw [if_pos c2]
        unfold r_law_bent_3
        walk_at "law_bent0"
        refine ⟨ds[q], atI_nat (List.getElem?_eq_getElem hq), rfl, ⟨o0, o1⟩, ho, ⟨by omega, by omega, hd _ (List.getElem_mem hq)⟩, fun r hr => ?_⟩
        rw [show (q : Int) + 1 = ((q + 1 : Nat) : Int) from rfl, cut_to ds q (by omega), cut_from ds (q + 1) (by omega)]
        refine ⟨by rw [sizeLine_eq, List.length_take]; omega, by rw [sizeLine_eq, List.length_append, List.length_take, List.length_drop, List.length_singleton]; omega, ?_⟩
        refine hP _ (nv_tup (by rw [List.length_append, List.length_append, List.length_take, List.length_drop, List.length_singleton]; omega) fun u hu => ?_)
        simp only [List.mem_append, List.mem_cons, List.not_mem_nil, or_false] at hu
        rcases hu with (hu | rfl) | hu
        · exact tk u hu
        · exact hr
        · exact dk u hu
      · rw [if_neg c2]
        unfold r_law_bent_4
        walk_at "law_bent0"
        rw [show (q : Int) + 1 = ((q + 1 : Nat) : Int) from rfl, cut_to ds q (by omega), cut_to ds (q + 1) (by omega), cut_from ds (q + 1) (by omega), cut_from ds q (by omega)]
        refine ⟨by rw [sizeLine_eq, List.length_take, List.length_drop]; omega, by rw [sizeLine_eq, List.length_take, List.length_drop]; omega, by rw [sizeLine_eq, List.length_take, List.length_drop]; omega, ?_⟩
        have fin : ∀ (k : Nat) (A B C : PyData), NV (m + 1) A → NV (m + 1) B → NV (m + 1) C → k < 3 → ∃ d, atI [A, B, C] ((k : Nat) : Int) = some d ∧ P d := fun k A B C hA hB hC hk => by
          match k, hk with
          | 0, _ => exact ⟨A, atI_nat (j := 0) rfl, hP _ hA⟩
          | 1, _ => exact ⟨B, atI_nat (j := 1) rfl, hP _ hB⟩
          | 2, _ => exact ⟨C, atI_nat (j := 2) rfl, hP _ hC⟩
        rw [show y - 5 = (((y - 5).toNat : Nat) : Int) by omega]
        refine fin _ _ _ _ ?_ ?_ ?_ (by omega)
        · refine nv_tup (by rw [List.length_append, List.length_take, List.length_drop]; omega) fun u hu => ?_
          rcases List.mem_append.mp hu with hu | hu
          · exact tk u hu
          · exact dk u hu
        · refine nv_tup (by rw [List.length_append, List.length_take, List.length_drop]; omega) fun u hu => ?_
          rcases List.mem_append.mp hu with hu | hu
          · exact al u (List.mem_of_mem_take hu)
          · exact al u (List.mem_of_mem_drop hu)
        · refine nv_tup (by rw [List.length_append, List.length_take, List.length_drop]; omega) fun u hu => ?_
          rcases List.mem_append.mp hu with hu | hu
          · exact al u (List.mem_of_mem_drop hu)
          · exact al u (List.mem_of_mem_take hu)
  · exact h.elim
/-! _law_steps(sort, a, b): slots 0 sort, 1 a, 2 b, 3 found, 4 k, 5 r, 6 e -/
def r_law_steps_1 : RS := (rPar [4, 5, 6] (aCons (rOp kAdd (rVarW 4) (rC (.int 1))) (aCons (rOp kSub (rVarW 2) (rVarW 5)) (aCons (rUn kNeg (rC (.int 1))) aNil))))
def r_law_steps_2 : RS := (rPar [1, 2] (aCons (rVar 2) (aCons (rVar 5) aNil)))
theorem q_r_law_steps_2 (x : Sl) (xs : En) (M : ME) : r_law_steps_2 (x :: xs) M = ((rPar [1, 2] (aCons (rVar 2) (aCons (rVar 5) aNil)))) (x :: xs) M := rfl
def r_law_steps_3 : RS := rSeq (rApp 3 (rIf (tB' (rOp kEq (rVarW 0) (rC (.str "near")))) (rTupM (aCons (rVar 4) (aCons (rVar 5) (aCons (rVar 6) aNil)))) (rTupM (aCons (rVar 4) (aCons (rVar 5) aNil))))) r_law_steps_2
def r_law_steps_4 : RS := rSeq (rIte (tAndM (tB' (rOp kGt (rVarW 5) (rC (.int 0)))) (tOrM (tB' (rOp kEq (rVarW 0) (rC (.str "up")))) (tAndM (tB' (rOp kEq (rVarW 0) (rC (.str "near")))) (tB' (rOp kGt (rOp kMul (rC (.int 2)) (rVarW 5)) (rVarW 2)))))) r_law_steps_1 rPass) r_law_steps_3
theorem q_r_law_steps_4 (x : Sl) (xs : En) (M : ME) : r_law_steps_4 (x :: xs) M = (rSeq (rIte (tAndM (tB' (rOp kGt (rVarW 5) (rC (.int 0)))) (tOrM (tB' (rOp kEq (rVarW 0) (rC (.str "up")))) (tAndM (tB' (rOp kEq (rVarW 0) (rC (.str "near")))) (tB' (rOp kGt (rOp kMul (rC (.int 2)) (rVarW 5)) (rVarW 2)))))) r_law_steps_1 rPass) r_law_steps_3) (x :: xs) M := rfl
def r_law_steps_5 : RS := rSeq (rPar [4, 5, 6] (aCons (rOp kDiv (rVarW 1) (rVarW 2)) (aCons (rOp kMod (rFn kInt (aCons (rVarW 1) aNil)) (rVarW 2)) (aCons (rC (.int 1)) aNil)))) r_law_steps_4
def r_law_steps_6 : RS := (rRet (rFn kTuple (aCons (rVarW 3) aNil)))
def r_law_steps_7 : RS := rSeq (rWhile (tB' (rOp kGt (rVarW 2) (rC (.int 0)))) r_law_steps_5) r_law_steps_6
theorem q_r_law_steps_7 (x : Sl) (xs : En) (M : ME) : r_law_steps_7 (x :: xs) M = (rSeq (rWhile (tB' (rOp kGt (rVarW 2) (rC (.int 0)))) r_law_steps_5) r_law_steps_6) (x :: xs) M := rfl
def r_law_steps_8 : RS := rSeq (rSetO 3 (rLstM aNil)) r_law_steps_7
theorem q_r_law_steps_8 (x : Sl) (xs : En) (M : ME) : r_law_steps_8 (x :: xs) M = (rSeq (rSetO 3 (rLstM aNil)) r_law_steps_7) (x :: xs) M := rfl
def B_law_steps : KC := rDef 3 7 r_law_steps_8
local macro_rules | `(tactic| walk_at "law_steps") => `(tactic| simp only [rSeq, rSet, rSetO, rRet, rRetN, rPass_nx, rDrop, rIte, rFrz, rApp, rExt, rExtA, rAsg, rPar, rgName, rgTup, rgCons, rgNil, rVar, rVarW, rC, rOp, rUn, rFn, aNil, aCons, rTupM, rLstM, rIf, tB', tAndM, tOrM, tNotM, rAndV, rOrV, rNotV, rChain, kAdd, kSub, kMul, kDiv, kMod, kDivN, kModN, kPow, kShl, kCmp, kEq, kNe, kIs, kIsNot, isNoneD, kNeg, kIx, kRev, kLen, kAbs, kMax2, kMin2, kInt, kGcd, kTuple, kList, kRepr, rSl, oNone, oSome, rYes, iSeq, seqP, iRange1, iRange2, iRange3, iEnumA, iZipM, rFor, rLc, wipeE, List.getElem?_cons_zero, List.getElem?_cons_succ, List.set_cons_zero, List.set_cons_succ, List.length_cons, List.length_nil, List.zip_cons_cons, List.zip_nil_right, List.foldl_cons, List.foldl_nil, Nat.zero_add, Nat.reduceAdd, decide_eq_true_eq, Bool.not_eq_true', Bool.not_true, Bool.not_false, decide_eq_false_iff_not, Bool.false_eq_true, if_false, if_true, ite_true, ite_false, true_and, and_true, reduceIte, ↓reduceIte, Sl.f.injEq, rAsgO, rgNameO, rParO, setK, kRepL, rStore, kGet3, kRevA, rgLst, kRep, aStar, rPop1, rPopA, rBrk, rCnt, ix_two, ix_three, shp1, shp2, shp3, eqv2, eqv3, kIsTup, kIsLst, kIsInt, kIsBool, kIsStr, kIsDict, kJoin, kRepL, kAddL, rStore, rStoreI, kStr, kGet3, kRevA, rgLst, kRep, iZipX, aStar, rPop1, rPopA, rBrk, rCnt, List.dropLast_concat, List.getLast?_append, List.getLast?_singleton, Option.some_or, rAsgO, rgNameO, rParO, setK, Nat.reduceEqDiff, ix_zero, ix_one, ix_last, kInN, kIn, kNotIn, rLRg1, rLRg2, kInD, kInX, rIndexM, kReprE, kEqZ, kNeZ, kRepS, rSlStr, rExtA, flatD, List.all_cons, List.all_nil, Bool.and_self, Bool.and_true, List.any_cons, List.any_nil, not_true_eq_false, Int.zero_add, Nat.zero_le, sz1, sz2, sz3, sz4, sz5, sz6, sz7, sz8, sz9, sz10, sz11, sz12, Int.reduceLT, Int.reduceLE, Nat.reduceLT, Int.reduceAdd, Int.reduceMul, Int.reduceSub, Int.reduceNeg, Int.reducePow, Int.reduceToNat, Int.reduceDiv, Int.reduceMod, Nat.reducePow, decide_true, decide_false, ne_eq, not_false_eq_true, Bool.true_eq_false, if_true, if_false, q_r_law_steps_2, q_r_law_steps_4, q_r_law_steps_7, q_r_law_steps_8])
local macro_rules | `(tactic| walk_at "law_steps0") => `(tactic| simp only [rSeq, rSet, rSetO, rRet, rRetN, rPass_nx, rDrop, rIte, rFrz, rApp, rExt, rExtA, rAsg, rPar, rgName, rgTup, rgCons, rgNil, rVar, rVarW, rC, rOp, rUn, rFn, aNil, aCons, rTupM, rLstM, rIf, tB', tAndM, tOrM, tNotM, rAndV, rOrV, rNotV, rChain, kAdd, kSub, kMul, kDiv, kMod, kDivN, kModN, kPow, kShl, kCmp, kEq, kNe, kIs, kIsNot, isNoneD, kNeg, kIx, kRev, kLen, kAbs, kMax2, kMin2, kInt, kGcd, kTuple, kList, kRepr, rSl, oNone, oSome, rYes, iSeq, seqP, iRange1, iRange2, iRange3, iEnumA, iZipM, rFor, rLc, wipeE, List.getElem?_cons_zero, List.getElem?_cons_succ, List.set_cons_zero, List.set_cons_succ, List.length_cons, List.length_nil, List.zip_cons_cons, List.zip_nil_right, List.foldl_cons, List.foldl_nil, Nat.zero_add, Nat.reduceAdd, decide_eq_true_eq, Bool.not_eq_true', Bool.not_true, Bool.not_false, decide_eq_false_iff_not, Bool.false_eq_true, if_false, if_true, ite_true, ite_false, true_and, and_true, reduceIte, ↓reduceIte, Sl.f.injEq, rAsgO, rgNameO, rParO, setK, kRepL, rStore, kGet3, kRevA, rgLst, kRep, aStar, rPop1, rPopA, rBrk, rCnt, ix_two, ix_three, shp1, shp2, shp3, eqv2, eqv3, kIsTup, kIsLst, kIsInt, kIsBool, kIsStr, kIsDict, kJoin, kRepL, kAddL, rStore, rStoreI, kStr, kGet3, kRevA, rgLst, kRep, iZipX, aStar, rPop1, rPopA, rBrk, rCnt, List.dropLast_concat, List.getLast?_append, List.getLast?_singleton, Option.some_or, rAsgO, rgNameO, rParO, setK, Nat.reduceEqDiff, ix_zero, ix_one, ix_last, kInN, kIn, kNotIn, rLRg1, rLRg2, kInD, kInX, rIndexM, kReprE, kEqZ, kNeZ, kRepS, rSlStr, rExtA, flatD, List.all_cons, List.all_nil, Bool.and_self, Bool.and_true, List.any_cons, List.any_nil, not_true_eq_false, Int.zero_add, Nat.zero_le, sz1, sz2, sz3, sz4, sz5, sz6, sz7, sz8, sz9, sz10, sz11, sz12, Int.reduceLT, Int.reduceLE, Nat.reduceLT, Int.reduceAdd, Int.reduceMul, Int.reduceSub, Int.reduceNeg, Int.reducePow, Int.reduceToNat, Int.reduceDiv, Int.reduceMod, Nat.reducePow, decide_true, decide_false, ne_eq, not_false_eq_true, Bool.true_eq_false, if_true, if_false])
def S_law_steps : KC := fun ds P => match ds with
  | [.str s, .int a, .int b] => (s = "down" ∧ 0 ≤ b ∧ b.natAbs < 2 ^ 200) ∧ ∀ L R : List Int, Cp b a L → R.length = L.length → P (.tuple ((L.zip R).map pF))
  | _ => False
theorem Cp_log2 {q p : Int} {L : List Int} (c : Cp q p L) (q0 : 0 ≤ q) (qp : q ≤ p) (hp : p.natAbs < 2 ^ 200) : L.length ≤ 400 := by
  refine Cp_log c 400 q0 qp ?_
  have h1 : q * p ≤ p * p := Int.mul_le_mul_of_nonneg_right qp (by omega)
  have h2 : p ≤ 2 ^ 200 - 1 := by omega
  have h3 : p * p ≤ (2 ^ 200 - 1) * (2 ^ 200 - 1) := Int.mul_le_mul h2 h2 (by omega) (by decide)
  have h4 : ((2 : Int) ^ 200 - 1) * (2 ^ 200 - 1) < 2 ^ 400 := by decide
  omega
theorem Cp_log3 {q p : Int} {L : List Int} (c : Cp q p L) (q0 : 0 ≤ q) (hq : q.natAbs < 2 ^ 200) : L.length ≤ 401 := by
  cases c with
  | nil => simp
  | cons h c =>
    have := Cp_log2 c (Int.emod_nonneg _ (by omega)) (Int.le_of_lt (Int.emod_lt_of_pos _ h)) hq
    rw [List.length_cons]; omega
theorem S_law_steps_ok : ∀ ds P, S_law_steps ds P → B_law_steps ds P := by
  intro ds P h
  unfold S_law_steps at h
  split at h
  · rename_i s a0 b0
    obtain ⟨⟨rfl, q0, hq⟩, hP⟩ := h
    refine ⟨rfl, ?_⟩
    show r_law_steps_8 [.f (.str "down"), .f (.int a0), .f (.int b0), .u, .u, .u, .u] _
    unfold r_law_steps_8
    walk_at "law_steps0"
    unfold r_law_steps_7
    walk_at "law_steps0"
    refine while_inv (fun e => ∃ (a b : Int) (pre : List (Int × Int)) (x4 x5 x6 : Sl), e = [.f (.str "down"), .f (.int a), .f (.int b), .o (.list (pre.map pF)), x4, x5, x6] ∧ 0 ≤ b ∧ b ≤ b0 ∧ ∀ L, Cp b a L → Cp b0 a0 (pre.map (·.1) ++ L))
      (fun e => match e with | [_, _, .f (.int b), _, _, _, _] => b.toNat | _ => 0) ⟨a0, b0, [], _, _, _, rfl, q0, Int.le_refl _, fun L c => c⟩ ?_
    rintro e ⟨a, b, pre, x4, x5, x6, rfl, bb, bp, hc⟩ M' hn hct hr hbk
    walk_at "law_steps0"
    by_cases hb : 0 < b
    · rw [if_pos hb]
      unfold r_law_steps_5
      walk_at "law_steps0"
      have n1 := Int.emod_nonneg a (b := b) (by omega)
      have n2 := Int.emod_lt_of_pos a hb
      have hl : pre.length ≤ 401 := by
        obtain ⟨L, hL⟩ := Cp_ex b.toNat b a (Nat.le_refl _) bb
        have := Cp_log3 (hc L hL) q0 hq
        rw [List.length_append, List.length_map] at this
        omega
      refine ⟨⟨hb, log_big (by omega)⟩, hb, ?_⟩
      have tl : r_law_steps_3 [.f (.str "down"), .f (.int a), .f (.int b), .o (.list (pre.map pF)), .f (.int (a / b)), .f (.int (a % b)), .f (.int 1)] M' := by
        unfold r_law_steps_3
        walk_at "law_steps0"
        rw [if_neg (by decide +kernel)]
        refine ⟨by rw [List.length_map, sizeLine_eq]; omega, ?_⟩
        unfold r_law_steps_2
        walk_at "law_steps0"
        refine hn _ ⟨b, a % b, pre ++ [(a / b, a % b)], _, _, _, by rw [List.map_append]; rfl, n1, by omega, fun L c => by rw [List.map_append, List.append_assoc]; exact hc _ (.cons hb c)⟩ ?_
        show (a % b).toNat < b.toNat
        omega
      unfold r_law_steps_4
      walk_at "law_steps0"
      split
      · first | exact tl | (split <;> exact tl)
      · exact tl
    · rw [if_neg hb]
      have : b = 0 := by omega
      subst this
      unfold r_law_steps_6
      walk_at "law_steps0"
      have hc := hc _ .nil
      rw [List.append_nil] at hc
      have := hP _ (pre.map (·.2)) hc (by rw [List.length_map, List.length_map])
      have ez : (pre.map (·.1)).zip (pre.map (·.2)) = pre := by
        rw [List.zip_map']
        simp
      rw [ez] at this
      exact this
  · exact h.elim
/-! _law_chain(a, b): slots 0 a, 1 b, 2 step -/
def r_law_chain_1 : RS := (rRet (rFn kTuple (aCons (rLc [2] (iSeq (rFn S_law_steps (aCons (rC (.str "down")) (aCons (rVar 0) (aCons (rVar 1) aNil))))) (rgName 2) rYes (rOp kIx (rVarW 2) (rC (.int 0)))) aNil)))
theorem q_r_law_chain_1 (x : Sl) (xs : En) (M : ME) : r_law_chain_1 (x :: xs) M = ((rRet (rFn kTuple (aCons (rLc [2] (iSeq (rFn S_law_steps (aCons (rC (.str "down")) (aCons (rVar 0) (aCons (rVar 1) aNil))))) (rgName 2) rYes (rOp kIx (rVarW 2) (rC (.int 0)))) aNil)))) (x :: xs) M := rfl
def B_law_chain : KC := rDef 2 3 r_law_chain_1
local macro_rules | `(tactic| walk_at "law_chain") => `(tactic| simp only [rSeq, rSet, rSetO, rRet, rRetN, rPass_nx, rDrop, rIte, rFrz, rApp, rExt, rExtA, rAsg, rPar, rgName, rgTup, rgCons, rgNil, rVar, rVarW, rC, rOp, rUn, rFn, aNil, aCons, rTupM, rLstM, rIf, tB', tAndM, tOrM, tNotM, rAndV, rOrV, rNotV, rChain, kAdd, kSub, kMul, kDiv, kMod, kDivN, kModN, kPow, kShl, kCmp, kEq, kNe, kIs, kIsNot, isNoneD, kNeg, kIx, kRev, kLen, kAbs, kMax2, kMin2, kInt, kGcd, kTuple, kList, kRepr, rSl, oNone, oSome, rYes, iSeq, seqP, iRange1, iRange2, iRange3, iEnumA, iZipM, rFor, rLc, wipeE, List.getElem?_cons_zero, List.getElem?_cons_succ, List.set_cons_zero, List.set_cons_succ, List.length_cons, List.length_nil, List.zip_cons_cons, List.zip_nil_right, List.foldl_cons, List.foldl_nil, Nat.zero_add, Nat.reduceAdd, decide_eq_true_eq, Bool.not_eq_true', Bool.not_true, Bool.not_false, decide_eq_false_iff_not, Bool.false_eq_true, if_false, if_true, ite_true, ite_false, true_and, and_true, reduceIte, ↓reduceIte, Sl.f.injEq, rAsgO, rgNameO, rParO, setK, kRepL, rStore, kGet3, kRevA, rgLst, kRep, aStar, rPop1, rPopA, rBrk, rCnt, ix_two, ix_three, shp1, shp2, shp3, eqv2, eqv3, kIsTup, kIsLst, kIsInt, kIsBool, kIsStr, kIsDict, kJoin, kRepL, kAddL, rStore, rStoreI, kStr, kGet3, kRevA, rgLst, kRep, iZipX, aStar, rPop1, rPopA, rBrk, rCnt, List.dropLast_concat, List.getLast?_append, List.getLast?_singleton, Option.some_or, rAsgO, rgNameO, rParO, setK, Nat.reduceEqDiff, ix_zero, ix_one, ix_last, kInN, kIn, kNotIn, rLRg1, rLRg2, kInD, kInX, rIndexM, kReprE, kEqZ, kNeZ, kRepS, rSlStr, rExtA, flatD, List.all_cons, List.all_nil, Bool.and_self, Bool.and_true, List.any_cons, List.any_nil, not_true_eq_false, Int.zero_add, Nat.zero_le, sz1, sz2, sz3, sz4, sz5, sz6, sz7, sz8, sz9, sz10, sz11, sz12, Int.reduceLT, Int.reduceLE, Nat.reduceLT, Int.reduceAdd, Int.reduceMul, Int.reduceSub, Int.reduceNeg, Int.reducePow, Int.reduceToNat, Int.reduceDiv, Int.reduceMod, Nat.reducePow, decide_true, decide_false, ne_eq, not_false_eq_true, Bool.true_eq_false, if_true, if_false, q_r_law_chain_1, S_law_steps])
local macro_rules | `(tactic| walk_at "law_chain0") => `(tactic| simp only [rSeq, rSet, rSetO, rRet, rRetN, rPass_nx, rDrop, rIte, rFrz, rApp, rExt, rExtA, rAsg, rPar, rgName, rgTup, rgCons, rgNil, rVar, rVarW, rC, rOp, rUn, rFn, aNil, aCons, rTupM, rLstM, rIf, tB', tAndM, tOrM, tNotM, rAndV, rOrV, rNotV, rChain, kAdd, kSub, kMul, kDiv, kMod, kDivN, kModN, kPow, kShl, kCmp, kEq, kNe, kIs, kIsNot, isNoneD, kNeg, kIx, kRev, kLen, kAbs, kMax2, kMin2, kInt, kGcd, kTuple, kList, kRepr, rSl, oNone, oSome, rYes, iSeq, seqP, iRange1, iRange2, iRange3, iEnumA, iZipM, rFor, rLc, wipeE, List.getElem?_cons_zero, List.getElem?_cons_succ, List.set_cons_zero, List.set_cons_succ, List.length_cons, List.length_nil, List.zip_cons_cons, List.zip_nil_right, List.foldl_cons, List.foldl_nil, Nat.zero_add, Nat.reduceAdd, decide_eq_true_eq, Bool.not_eq_true', Bool.not_true, Bool.not_false, decide_eq_false_iff_not, Bool.false_eq_true, if_false, if_true, ite_true, ite_false, true_and, and_true, reduceIte, ↓reduceIte, Sl.f.injEq, rAsgO, rgNameO, rParO, setK, kRepL, rStore, kGet3, kRevA, rgLst, kRep, aStar, rPop1, rPopA, rBrk, rCnt, ix_two, ix_three, shp1, shp2, shp3, eqv2, eqv3, kIsTup, kIsLst, kIsInt, kIsBool, kIsStr, kIsDict, kJoin, kRepL, kAddL, rStore, rStoreI, kStr, kGet3, kRevA, rgLst, kRep, iZipX, aStar, rPop1, rPopA, rBrk, rCnt, List.dropLast_concat, List.getLast?_append, List.getLast?_singleton, Option.some_or, rAsgO, rgNameO, rParO, setK, Nat.reduceEqDiff, ix_zero, ix_one, ix_last, kInN, kIn, kNotIn, rLRg1, rLRg2, kInD, kInX, rIndexM, kReprE, kEqZ, kNeZ, kRepS, rSlStr, rExtA, flatD, List.all_cons, List.all_nil, Bool.and_self, Bool.and_true, List.any_cons, List.any_nil, not_true_eq_false, Int.zero_add, Nat.zero_le, sz1, sz2, sz3, sz4, sz5, sz6, sz7, sz8, sz9, sz10, sz11, sz12, Int.reduceLT, Int.reduceLE, Nat.reduceLT, Int.reduceAdd, Int.reduceMul, Int.reduceSub, Int.reduceNeg, Int.reducePow, Int.reduceToNat, Int.reduceDiv, Int.reduceMod, Nat.reducePow, decide_true, decide_false, ne_eq, not_false_eq_true, Bool.true_eq_false, if_true, if_false, S_law_steps])
def S_law_chain : KC := fun ds P => match ds with
  | [.int a, .int b] => (0 ≤ b ∧ b.natAbs < 2 ^ 200) ∧ ∀ L : List Int, Cp b a L → P (.tuple (L.map PyData.int))
  | _ => False
theorem S_law_chain_ok : ∀ ds P, S_law_chain ds P → B_law_chain ds P := by
  intro ds P h
  unfold S_law_chain at h
  split at h
  · rename_i a b
    obtain ⟨⟨b0, b1⟩, hP⟩ := h
    refine ⟨rfl, ?_⟩
    show r_law_chain_1 [.f (.int a), .f (.int b), .u] _
    unfold r_law_chain_1
    walk_at "law_chain0"
    refine ⟨⟨b0, b1⟩, fun L R hL hR => ?_⟩
    have ll := Cp_log3 hL b0 b1
    refine lc_map pF (fun x => .int x.1) (L.zip R) (by rw [List.length_zip, sizeLine_eq]; omega) (fun x hx Q hQ => ?_) ?_
    · rw [pF_eq]
      walk_at "law_chain0"
      exact hQ
    have e : (L.zip R).map (fun x => PyData.int x.1) = L.map PyData.int := by
      have : (L.zip R).map (·.1) = L := List.map_fst_zip (by omega)
      rw [← this, List.map_map]
      rw [this]; rfl
    rw [e]
    exact hP L hL
  · exact h.elim
/-! _law_common(a, b): slots 0 a, 1 b -/
def r_law_common_1 : RS := (rPar [0, 1] (aCons (rVar 1) (aCons (rOp kMod (rFn kInt (aCons (rVarW 0) aNil)) (rVarW 1)) aNil)))
def r_law_common_2 : RS := (rRet (rVar 0))
def r_law_common_3 : RS := rSeq (rWhile (tB' (rOp kGt (rVarW 1) (rC (.int 0)))) r_law_common_1) r_law_common_2
theorem q_r_law_common_3 (x : Sl) (xs : En) (M : ME) : r_law_common_3 (x :: xs) M = (rSeq (rWhile (tB' (rOp kGt (rVarW 1) (rC (.int 0)))) r_law_common_1) r_law_common_2) (x :: xs) M := rfl
def r_law_common_4 : RS := rSeq (rPar [0, 1] (aCons (rFn kAbs (aCons (rVarW 0) aNil)) (aCons (rFn kAbs (aCons (rVarW 1) aNil)) aNil))) r_law_common_3
theorem q_r_law_common_4 (x : Sl) (xs : En) (M : ME) : r_law_common_4 (x :: xs) M = (rSeq (rPar [0, 1] (aCons (rFn kAbs (aCons (rVarW 0) aNil)) (aCons (rFn kAbs (aCons (rVarW 1) aNil)) aNil))) r_law_common_3) (x :: xs) M := rfl
def B_law_common : KC := rDef 2 2 r_law_common_4
local macro_rules | `(tactic| walk_at "law_common") => `(tactic| simp only [rSeq, rSet, rSetO, rRet, rRetN, rPass_nx, rDrop, rIte, rFrz, rApp, rExt, rExtA, rAsg, rPar, rgName, rgTup, rgCons, rgNil, rVar, rVarW, rC, rOp, rUn, rFn, aNil, aCons, rTupM, rLstM, rIf, tB', tAndM, tOrM, tNotM, rAndV, rOrV, rNotV, rChain, kAdd, kSub, kMul, kDiv, kMod, kDivN, kModN, kPow, kShl, kCmp, kEq, kNe, kIs, kIsNot, isNoneD, kNeg, kIx, kRev, kLen, kAbs, kMax2, kMin2, kInt, kGcd, kTuple, kList, kRepr, rSl, oNone, oSome, rYes, iSeq, seqP, iRange1, iRange2, iRange3, iEnumA, iZipM, rFor, rLc, wipeE, List.getElem?_cons_zero, List.getElem?_cons_succ, List.set_cons_zero, List.set_cons_succ, List.length_cons, List.length_nil, List.zip_cons_cons, List.zip_nil_right, List.foldl_cons, List.foldl_nil, Nat.zero_add, Nat.reduceAdd, decide_eq_true_eq, Bool.not_eq_true', Bool.not_true, Bool.not_false, decide_eq_false_iff_not, Bool.false_eq_true, if_false, if_true, ite_true, ite_false, true_and, and_true, reduceIte, ↓reduceIte, Sl.f.injEq, rAsgO, rgNameO, rParO, setK, kRepL, rStore, kGet3, kRevA, rgLst, kRep, aStar, rPop1, rPopA, rBrk, rCnt, ix_two, ix_three, shp1, shp2, shp3, eqv2, eqv3, kIsTup, kIsLst, kIsInt, kIsBool, kIsStr, kIsDict, kJoin, kRepL, kAddL, rStore, rStoreI, kStr, kGet3, kRevA, rgLst, kRep, iZipX, aStar, rPop1, rPopA, rBrk, rCnt, List.dropLast_concat, List.getLast?_append, List.getLast?_singleton, Option.some_or, rAsgO, rgNameO, rParO, setK, Nat.reduceEqDiff, ix_zero, ix_one, ix_last, kInN, kIn, kNotIn, rLRg1, rLRg2, kInD, kInX, rIndexM, kReprE, kEqZ, kNeZ, kRepS, rSlStr, rExtA, flatD, List.all_cons, List.all_nil, Bool.and_self, Bool.and_true, List.any_cons, List.any_nil, not_true_eq_false, Int.zero_add, Nat.zero_le, sz1, sz2, sz3, sz4, sz5, sz6, sz7, sz8, sz9, sz10, sz11, sz12, Int.reduceLT, Int.reduceLE, Nat.reduceLT, Int.reduceAdd, Int.reduceMul, Int.reduceSub, Int.reduceNeg, Int.reducePow, Int.reduceToNat, Int.reduceDiv, Int.reduceMod, Nat.reducePow, decide_true, decide_false, ne_eq, not_false_eq_true, Bool.true_eq_false, if_true, if_false, q_r_law_common_3, q_r_law_common_4])
local macro_rules | `(tactic| walk_at "law_common0") => `(tactic| simp only [rSeq, rSet, rSetO, rRet, rRetN, rPass_nx, rDrop, rIte, rFrz, rApp, rExt, rExtA, rAsg, rPar, rgName, rgTup, rgCons, rgNil, rVar, rVarW, rC, rOp, rUn, rFn, aNil, aCons, rTupM, rLstM, rIf, tB', tAndM, tOrM, tNotM, rAndV, rOrV, rNotV, rChain, kAdd, kSub, kMul, kDiv, kMod, kDivN, kModN, kPow, kShl, kCmp, kEq, kNe, kIs, kIsNot, isNoneD, kNeg, kIx, kRev, kLen, kAbs, kMax2, kMin2, kInt, kGcd, kTuple, kList, kRepr, rSl, oNone, oSome, rYes, iSeq, seqP, iRange1, iRange2, iRange3, iEnumA, iZipM, rFor, rLc, wipeE, List.getElem?_cons_zero, List.getElem?_cons_succ, List.set_cons_zero, List.set_cons_succ, List.length_cons, List.length_nil, List.zip_cons_cons, List.zip_nil_right, List.foldl_cons, List.foldl_nil, Nat.zero_add, Nat.reduceAdd, decide_eq_true_eq, Bool.not_eq_true', Bool.not_true, Bool.not_false, decide_eq_false_iff_not, Bool.false_eq_true, if_false, if_true, ite_true, ite_false, true_and, and_true, reduceIte, ↓reduceIte, Sl.f.injEq, rAsgO, rgNameO, rParO, setK, kRepL, rStore, kGet3, kRevA, rgLst, kRep, aStar, rPop1, rPopA, rBrk, rCnt, ix_two, ix_three, shp1, shp2, shp3, eqv2, eqv3, kIsTup, kIsLst, kIsInt, kIsBool, kIsStr, kIsDict, kJoin, kRepL, kAddL, rStore, rStoreI, kStr, kGet3, kRevA, rgLst, kRep, iZipX, aStar, rPop1, rPopA, rBrk, rCnt, List.dropLast_concat, List.getLast?_append, List.getLast?_singleton, Option.some_or, rAsgO, rgNameO, rParO, setK, Nat.reduceEqDiff, ix_zero, ix_one, ix_last, kInN, kIn, kNotIn, rLRg1, rLRg2, kInD, kInX, rIndexM, kReprE, kEqZ, kNeZ, kRepS, rSlStr, rExtA, flatD, List.all_cons, List.all_nil, Bool.and_self, Bool.and_true, List.any_cons, List.any_nil, not_true_eq_false, Int.zero_add, Nat.zero_le, sz1, sz2, sz3, sz4, sz5, sz6, sz7, sz8, sz9, sz10, sz11, sz12, Int.reduceLT, Int.reduceLE, Nat.reduceLT, Int.reduceAdd, Int.reduceMul, Int.reduceSub, Int.reduceNeg, Int.reducePow, Int.reduceToNat, Int.reduceDiv, Int.reduceMod, Nat.reducePow, decide_true, decide_false, ne_eq, not_false_eq_true, Bool.true_eq_false, if_true, if_false])
def S_law_common : KC := fun ds P => match ds with
  | [.int a, .int b] => P (.int (Int.gcd a b : Int))
  | _ => False
theorem S_law_common_ok : ∀ ds P, S_law_common ds P → B_law_common ds P := by
  intro ds P h
  unfold S_law_common at h
  split at h
  · rename_i p q
    refine ⟨rfl, ?_⟩
    show r_law_common_4 [.f (.int p), .f (.int q)] _
    walk_at "law_common"
    refine while_inv (fun e => ∃ a b : Int, e = [.f (.int a), .f (.int b)] ∧ 0 ≤ a ∧ 0 ≤ b ∧ Int.gcd a b = Int.gcd p q) (fun e => match e with | [_, .f (.int b)] => b.toNat | _ => 0) ⟨_, _, rfl, by split <;> omega, by split <;> omega, by rw [gcd_abs, gcd_abs2]⟩ ?_
    rintro e ⟨a, b, rfl, a0, b0, hg⟩ M' hn hc hr hbk
    walk_at "law_common"
    by_cases hb : 0 < b
    · rw [if_pos hb]
      unfold r_law_common_1
      walk_at "law_common"
      have := Int.emod_lt_of_pos a hb
      refine ⟨hb, hn _ ⟨b, a % b, rfl, b0, Int.emod_nonneg _ (by omega), by rw [gcd_step a0 hb, hg]⟩ ?_⟩
      show (a % b).toNat < b.toNat
      omega
    · rw [if_neg hb]
      have hb : b = 0 := by omega
      subst hb
      unfold r_law_common_2
      walk_at "law_common"
      have ha : a = (Int.gcd p q : Int) := by
        rw [← hg, Int.gcd_zero_right]; omega
      rw [ha]
      exact h
  · exact h.elim
/-! _law_fraction(source): slots 0 source, 1 way, 2 p, 3 q, 4 turn, 5 by -/
def r_law_fraction_1 : RS := (rPar [2, 3] (aCons (rOp kAdd (rC (.int 1)) (rFn S_law_pick (aCons (rVar 0) (aCons (rC (.int 20)) aNil)))) (aCons (rOp kAdd (rC (.int 1)) (rFn S_law_pick (aCons (rVar 0) (aCons (rC (.int 20)) aNil)))) aNil)))
def r_law_fraction_2 : RS := (rPar [2, 3] (aCons (rOp kAdd (rC (.int 1)) (rFn S_law_pick (aCons (rVar 0) (aCons (rC (.int 5000)) aNil)))) (aCons (rOp kAdd (rC (.int 1)) (rFn S_law_pick (aCons (rVar 0) (aCons (rC (.int 5000)) aNil)))) aNil)))
def r_law_fraction_3 : RS := (rAsg (rIf (tB' (rOp kEq (rFn S_law_pick (aCons (rVar 0) (aCons (rC (.int 2)) aNil))) (rC (.int 0)))) (rTupM (aCons (rOp kAdd (rVarW 2) (rVarW 3)) (aCons (rVar 3) aNil))) (rTupM (aCons (rVar 2) (aCons (rOp kAdd (rVarW 2) (rVarW 3)) aNil)))) (rgTup 2 (rgCons (rgName 2) (rgCons (rgName 3) rgNil))))
def r_law_fraction_4 : RS := (rFor (iRange1 (aCons (rFn S_law_pick (aCons (rVar 0) (aCons (rC (.int 30)) aNil))) aNil)) (rgName 4) r_law_fraction_3)
theorem q_r_law_fraction_4 (x : Sl) (xs : En) (M : ME) : r_law_fraction_4 (x :: xs) M = ((rFor (iRange1 (aCons (rFn S_law_pick (aCons (rVar 0) (aCons (rC (.int 30)) aNil))) aNil)) (rgName 4) r_law_fraction_3)) (x :: xs) M := rfl
def r_law_fraction_5 : RS := rSeq (rAsg (rTupM (aCons (rC (.int 1)) (aCons (rC (.int 1)) aNil))) (rgTup 2 (rgCons (rgName 2) (rgCons (rgName 3) rgNil)))) r_law_fraction_4
def r_law_fraction_6 : RS := (rIte (tB' (rOp kEq (rVarW 1) (rC (.int 1)))) r_law_fraction_2 r_law_fraction_5)
def r_law_fraction_7 : RS := (rRet (rTupM (aCons (rOp kDiv (rVarW 2) (rVarW 5)) (aCons (rOp kDiv (rVarW 3) (rVarW 5)) aNil))))
theorem q_r_law_fraction_7 (x : Sl) (xs : En) (M : ME) : r_law_fraction_7 (x :: xs) M = ((rRet (rTupM (aCons (rOp kDiv (rVarW 2) (rVarW 5)) (aCons (rOp kDiv (rVarW 3) (rVarW 5)) aNil))))) (x :: xs) M := rfl
def r_law_fraction_8 : RS := rSeq (rSet 5 (rFn S_law_common (aCons (rVar 2) (aCons (rVar 3) aNil)))) r_law_fraction_7
def r_law_fraction_9 : RS := rSeq (rIte (tB' (rOp kEq (rVarW 1) (rC (.int 0)))) r_law_fraction_1 r_law_fraction_6) r_law_fraction_8
theorem q_r_law_fraction_9 (x : Sl) (xs : En) (M : ME) : r_law_fraction_9 (x :: xs) M = (rSeq (rIte (tB' (rOp kEq (rVarW 1) (rC (.int 0)))) r_law_fraction_1 r_law_fraction_6) r_law_fraction_8) (x :: xs) M := rfl
def r_law_fraction_10 : RS := rSeq (rSet 1 (rFn S_law_pick (aCons (rVar 0) (aCons (rC (.int 3)) aNil)))) r_law_fraction_9
theorem q_r_law_fraction_10 (x : Sl) (xs : En) (M : ME) : r_law_fraction_10 (x :: xs) M = (rSeq (rSet 1 (rFn S_law_pick (aCons (rVar 0) (aCons (rC (.int 3)) aNil)))) r_law_fraction_9) (x :: xs) M := rfl
def B_law_fraction : KC := rDef 1 6 r_law_fraction_10
local macro_rules | `(tactic| walk_at "law_fraction") => `(tactic| simp only [rSeq, rSet, rSetO, rRet, rRetN, rPass_nx, rDrop, rIte, rFrz, rApp, rExt, rExtA, rAsg, rPar, rgName, rgTup, rgCons, rgNil, rVar, rVarW, rC, rOp, rUn, rFn, aNil, aCons, rTupM, rLstM, rIf, tB', tAndM, tOrM, tNotM, rAndV, rOrV, rNotV, rChain, kAdd, kSub, kMul, kDiv, kMod, kDivN, kModN, kPow, kShl, kCmp, kEq, kNe, kIs, kIsNot, isNoneD, kNeg, kIx, kRev, kLen, kAbs, kMax2, kMin2, kInt, kGcd, kTuple, kList, kRepr, rSl, oNone, oSome, rYes, iSeq, seqP, iRange1, iRange2, iRange3, iEnumA, iZipM, rFor, rLc, wipeE, List.getElem?_cons_zero, List.getElem?_cons_succ, List.set_cons_zero, List.set_cons_succ, List.length_cons, List.length_nil, List.zip_cons_cons, List.zip_nil_right, List.foldl_cons, List.foldl_nil, Nat.zero_add, Nat.reduceAdd, decide_eq_true_eq, Bool.not_eq_true', Bool.not_true, Bool.not_false, decide_eq_false_iff_not, Bool.false_eq_true, if_false, if_true, ite_true, ite_false, true_and, and_true, reduceIte, ↓reduceIte, Sl.f.injEq, rAsgO, rgNameO, rParO, setK, kRepL, rStore, kGet3, kRevA, rgLst, kRep, aStar, rPop1, rPopA, rBrk, rCnt, ix_two, ix_three, shp1, shp2, shp3, eqv2, eqv3, kIsTup, kIsLst, kIsInt, kIsBool, kIsStr, kIsDict, kJoin, kRepL, kAddL, rStore, rStoreI, kStr, kGet3, kRevA, rgLst, kRep, iZipX, aStar, rPop1, rPopA, rBrk, rCnt, List.dropLast_concat, List.getLast?_append, List.getLast?_singleton, Option.some_or, rAsgO, rgNameO, rParO, setK, Nat.reduceEqDiff, ix_zero, ix_one, ix_last, kInN, kIn, kNotIn, rLRg1, rLRg2, kInD, kInX, rIndexM, kReprE, kEqZ, kNeZ, kRepS, rSlStr, rExtA, flatD, List.all_cons, List.all_nil, Bool.and_self, Bool.and_true, List.any_cons, List.any_nil, not_true_eq_false, Int.zero_add, Nat.zero_le, sz1, sz2, sz3, sz4, sz5, sz6, sz7, sz8, sz9, sz10, sz11, sz12, Int.reduceLT, Int.reduceLE, Nat.reduceLT, Int.reduceAdd, Int.reduceMul, Int.reduceSub, Int.reduceNeg, Int.reducePow, Int.reduceToNat, Int.reduceDiv, Int.reduceMod, Nat.reducePow, decide_true, decide_false, ne_eq, not_false_eq_true, Bool.true_eq_false, if_true, if_false, q_r_law_fraction_4, q_r_law_fraction_7, q_r_law_fraction_9, q_r_law_fraction_10, S_law_pick, SPk, S_law_common])
local macro_rules | `(tactic| walk_at "law_fraction0") => `(tactic| simp only [rSeq, rSet, rSetO, rRet, rRetN, rPass_nx, rDrop, rIte, rFrz, rApp, rExt, rExtA, rAsg, rPar, rgName, rgTup, rgCons, rgNil, rVar, rVarW, rC, rOp, rUn, rFn, aNil, aCons, rTupM, rLstM, rIf, tB', tAndM, tOrM, tNotM, rAndV, rOrV, rNotV, rChain, kAdd, kSub, kMul, kDiv, kMod, kDivN, kModN, kPow, kShl, kCmp, kEq, kNe, kIs, kIsNot, isNoneD, kNeg, kIx, kRev, kLen, kAbs, kMax2, kMin2, kInt, kGcd, kTuple, kList, kRepr, rSl, oNone, oSome, rYes, iSeq, seqP, iRange1, iRange2, iRange3, iEnumA, iZipM, rFor, rLc, wipeE, List.getElem?_cons_zero, List.getElem?_cons_succ, List.set_cons_zero, List.set_cons_succ, List.length_cons, List.length_nil, List.zip_cons_cons, List.zip_nil_right, List.foldl_cons, List.foldl_nil, Nat.zero_add, Nat.reduceAdd, decide_eq_true_eq, Bool.not_eq_true', Bool.not_true, Bool.not_false, decide_eq_false_iff_not, Bool.false_eq_true, if_false, if_true, ite_true, ite_false, true_and, and_true, reduceIte, ↓reduceIte, Sl.f.injEq, rAsgO, rgNameO, rParO, setK, kRepL, rStore, kGet3, kRevA, rgLst, kRep, aStar, rPop1, rPopA, rBrk, rCnt, ix_two, ix_three, shp1, shp2, shp3, eqv2, eqv3, kIsTup, kIsLst, kIsInt, kIsBool, kIsStr, kIsDict, kJoin, kRepL, kAddL, rStore, rStoreI, kStr, kGet3, kRevA, rgLst, kRep, iZipX, aStar, rPop1, rPopA, rBrk, rCnt, List.dropLast_concat, List.getLast?_append, List.getLast?_singleton, Option.some_or, rAsgO, rgNameO, rParO, setK, Nat.reduceEqDiff, ix_zero, ix_one, ix_last, kInN, kIn, kNotIn, rLRg1, rLRg2, kInD, kInX, rIndexM, kReprE, kEqZ, kNeZ, kRepS, rSlStr, rExtA, flatD, List.all_cons, List.all_nil, Bool.and_self, Bool.and_true, List.any_cons, List.any_nil, not_true_eq_false, Int.zero_add, Nat.zero_le, sz1, sz2, sz3, sz4, sz5, sz6, sz7, sz8, sz9, sz10, sz11, sz12, Int.reduceLT, Int.reduceLE, Nat.reduceLT, Int.reduceAdd, Int.reduceMul, Int.reduceSub, Int.reduceNeg, Int.reducePow, Int.reduceToNat, Int.reduceDiv, Int.reduceMod, Nat.reducePow, decide_true, decide_false, ne_eq, not_false_eq_true, Bool.true_eq_false, if_true, if_false, S_law_pick, SPk, S_law_common])
def S_law_fraction : KC := fun ds P => match ds with
  | [d] => d = srcD ∧ ∀ p q : Int, 0 < p → 0 < q → p ≤ 10 ^ 12 → q ≤ 10 ^ 12 → Int.gcd p q = 1 → P (.tuple [.int p, .int q])
  | _ => False
theorem S_law_fraction_ok : ∀ ds P, S_law_fraction ds P → B_law_fraction ds P := by
  intro ds P h
  unfold S_law_fraction at h
  split at h
  · obtain ⟨rfl, hP⟩ := h
    refine ⟨rfl, ?_⟩
    show r_law_fraction_10 [.f srcD, .u, .u, .u, .u, .u] _
    unfold r_law_fraction_10
    walk_at "law_fraction0"
    refine ⟨by decide, fun w w0 w1 => ?_⟩
    have fin : ∀ (p q : Int) (a4 : Sl) (M : ME), M.rt = P → 0 < p → 0 < q → p ≤ 10 ^ 12 → q ≤ 10 ^ 12 → r_law_fraction_8 [.f srcD, .f (.int w), .f (.int p), .f (.int q), a4, .u] M := fun p q a4 M e p0 q0 p1 q1 => by
      obtain ⟨k0, k1, k2, k3, k4, k5, k6⟩ := low_all (p := p) q0
      unfold r_law_fraction_8
      walk_at "law_fraction0"
      unfold r_law_fraction_7
      walk_at "law_fraction0"
      refine ⟨⟨k0, log_big (by omega)⟩, ⟨k0, log_big (by omega)⟩, ?_⟩
      rw [e]
      have p2 : 0 < p / (Int.gcd p q : Int) := by
        have : 0 < p / (Int.gcd p q : Int) * q := by rw [k4]; exact Int.mul_pos p0 k2
        exact Int.pos_of_mul_pos_left this (by omega)
      exact hP _ _ p2 k2 (by omega) (by omega) k3
    unfold r_law_fraction_9
    walk_at "law_fraction0"
    by_cases c : w = 0
    · rw [if_pos c]
      unfold r_law_fraction_1
      walk_at "law_fraction0"
      refine ⟨by decide, fun x x0 x1 => ⟨by decide, fun y y0 y1 => ?_⟩⟩
      exact fin _ _ _ _ rfl (by omega) (by omega) (by omega) (by omega)
    · rw [if_neg c]
      unfold r_law_fraction_6
      walk_at "law_fraction0"
      by_cases c2 : w = 1
      · rw [if_pos c2]
        unfold r_law_fraction_2
        walk_at "law_fraction0"
        refine ⟨by decide, fun x x0 x1 => ⟨by decide, fun y y0 y1 => ?_⟩⟩
        exact fin _ _ _ _ rfl (by omega) (by omega) (by omega) (by omega)
      · rw [if_neg c2]
        unfold r_law_fraction_5
        walk_at "law_fraction0"
        unfold r_law_fraction_4
        walk_at "law_fraction0"
        refine ⟨by decide, fun n n0 n1 => ⟨by omega, ?_⟩⟩
        refine for_rng 0 n.toNat (fun j e => ∃ (p q : Int) (a4 : Sl), e = [.f srcD, .f (.int w), .f (.int p), .f (.int q), a4, .u] ∧ 0 < p ∧ 0 < q ∧ p + q ≤ 2 ^ (j + 1)) ⟨1, 1, _, rfl, by decide, by decide, by decide⟩ (fun j e hj hE M' hnx hct hrt hbk => ?_) fun e hE => ?_
        · obtain ⟨p, q, a4, rfl, p0, q0, hs⟩ := hE
          have e2 : (2 : Int) ^ (j + 1 + 1) = 2 ^ (j + 1) * 2 := Int.pow_succ 2 (j + 1)
          unfold r_law_fraction_3
          walk_at "law_fraction0"
          refine ⟨by decide, fun r r0 r1 => ?_⟩
          by_cases c3 : r = 0
          · rw [if_pos c3]
            exact hnx _ ⟨p + q, q, _, rfl, by omega, by omega, by omega⟩
          · rw [if_neg c3]
            exact hnx _ ⟨p, p + q, _, rfl, by omega, by omega, by omega⟩
        · obtain ⟨p, q, a4, rfl, p0, q0, hs⟩ := hE
          have h30 : (2 : Int) ^ (n.toNat + 1) ≤ 2 ^ 31 := by
            have : (2 : Nat) ^ (n.toNat + 1) ≤ 2 ^ 31 := Nat.pow_le_pow_right (by decide) (by omega)
            exact_mod_cast this
          have b31 : (2 : Int) ^ 31 ≤ 10 ^ 12 := by decide
          exact fin _ _ _ _ rfl p0 q0 (by omega) (by omega)
  · exact h.elim
/-! _law_is_fraction(value): slots 0 value, 1 x -/
def r_law_is_fraction_1 : RS := (rRet (rC (.bool false)))
def r_law_is_fraction_2 : RS := (rRet (rOp kEqZ (rFn S_law_common (aCons (rOp kIx (rVarW 0) (rC (.int 0))) (aCons (rOp kIx (rVarW 0) (rC (.int 1))) aNil))) (rC (.int 1))))
def r_law_is_fraction_3 : RS := rSeq (rIte (tOrM (tNotM (tB' (rUn kIsTup (rVarW 0)))) (tOrM (tB' (rOp kNeZ (rFn kLen (aCons (rVarW 0) aNil)) (rC (.int 2)))) (tB' (rOp kNeZ (rLc [1] (iSeq (rVarW 0)) (rgName 1) (tOrM (tNotM (tB' (rFn S_law_is_int (aCons (rVar 1) aNil)))) (tB' (rOp kLt (rVarW 1) (rC (.int 1))))) (rVar 1)) (rLstM aNil))))) r_law_is_fraction_1 rPass) r_law_is_fraction_2
theorem q_r_law_is_fraction_3 (x : Sl) (xs : En) (M : ME) : r_law_is_fraction_3 (x :: xs) M = (rSeq (rIte (tOrM (tNotM (tB' (rUn kIsTup (rVarW 0)))) (tOrM (tB' (rOp kNeZ (rFn kLen (aCons (rVarW 0) aNil)) (rC (.int 2)))) (tB' (rOp kNeZ (rLc [1] (iSeq (rVarW 0)) (rgName 1) (tOrM (tNotM (tB' (rFn S_law_is_int (aCons (rVar 1) aNil)))) (tB' (rOp kLt (rVarW 1) (rC (.int 1))))) (rVar 1)) (rLstM aNil))))) r_law_is_fraction_1 rPass) r_law_is_fraction_2) (x :: xs) M := rfl
def B_law_is_fraction : KC := rDef 1 2 r_law_is_fraction_3
local macro_rules | `(tactic| walk_at "law_is_fraction") => `(tactic| simp only [rSeq, rSet, rSetO, rRet, rRetN, rPass_nx, rDrop, rIte, rFrz, rApp, rExt, rExtA, rAsg, rPar, rgName, rgTup, rgCons, rgNil, rVar, rVarW, rC, rOp, rUn, rFn, aNil, aCons, rTupM, rLstM, rIf, tB', tAndM, tOrM, tNotM, rAndV, rOrV, rNotV, rChain, kAdd, kSub, kMul, kDiv, kMod, kDivN, kModN, kPow, kShl, kCmp, kEq, kNe, kIs, kIsNot, isNoneD, kNeg, kIx, kRev, kLen, kAbs, kMax2, kMin2, kInt, kGcd, kTuple, kList, kRepr, rSl, oNone, oSome, rYes, iSeq, seqP, iRange1, iRange2, iRange3, iEnumA, iZipM, rFor, rLc, wipeE, List.getElem?_cons_zero, List.getElem?_cons_succ, List.set_cons_zero, List.set_cons_succ, List.length_cons, List.length_nil, List.zip_cons_cons, List.zip_nil_right, List.foldl_cons, List.foldl_nil, Nat.zero_add, Nat.reduceAdd, decide_eq_true_eq, Bool.not_eq_true', Bool.not_true, Bool.not_false, decide_eq_false_iff_not, Bool.false_eq_true, if_false, if_true, ite_true, ite_false, true_and, and_true, reduceIte, ↓reduceIte, Sl.f.injEq, rAsgO, rgNameO, rParO, setK, kRepL, rStore, kGet3, kRevA, rgLst, kRep, aStar, rPop1, rPopA, rBrk, rCnt, ix_two, ix_three, shp1, shp2, shp3, eqv2, eqv3, kIsTup, kIsLst, kIsInt, kIsBool, kIsStr, kIsDict, kJoin, kRepL, kAddL, rStore, rStoreI, kStr, kGet3, kRevA, rgLst, kRep, iZipX, aStar, rPop1, rPopA, rBrk, rCnt, List.dropLast_concat, List.getLast?_append, List.getLast?_singleton, Option.some_or, rAsgO, rgNameO, rParO, setK, Nat.reduceEqDiff, ix_zero, ix_one, ix_last, kInN, kIn, kNotIn, rLRg1, rLRg2, kInD, kInX, rIndexM, kReprE, kEqZ, kNeZ, kRepS, rSlStr, rExtA, flatD, List.all_cons, List.all_nil, Bool.and_self, Bool.and_true, List.any_cons, List.any_nil, not_true_eq_false, Int.zero_add, Nat.zero_le, sz1, sz2, sz3, sz4, sz5, sz6, sz7, sz8, sz9, sz10, sz11, sz12, Int.reduceLT, Int.reduceLE, Nat.reduceLT, Int.reduceAdd, Int.reduceMul, Int.reduceSub, Int.reduceNeg, Int.reducePow, Int.reduceToNat, Int.reduceDiv, Int.reduceMod, Nat.reducePow, decide_true, decide_false, ne_eq, not_false_eq_true, Bool.true_eq_false, if_true, if_false, q_r_law_is_fraction_3, i_law_is_int, q_r_law_is_int_1, S_law_common])
local macro_rules | `(tactic| walk_at "law_is_fraction0") => `(tactic| simp only [rSeq, rSet, rSetO, rRet, rRetN, rPass_nx, rDrop, rIte, rFrz, rApp, rExt, rExtA, rAsg, rPar, rgName, rgTup, rgCons, rgNil, rVar, rVarW, rC, rOp, rUn, rFn, aNil, aCons, rTupM, rLstM, rIf, tB', tAndM, tOrM, tNotM, rAndV, rOrV, rNotV, rChain, kAdd, kSub, kMul, kDiv, kMod, kDivN, kModN, kPow, kShl, kCmp, kEq, kNe, kIs, kIsNot, isNoneD, kNeg, kIx, kRev, kLen, kAbs, kMax2, kMin2, kInt, kGcd, kTuple, kList, kRepr, rSl, oNone, oSome, rYes, iSeq, seqP, iRange1, iRange2, iRange3, iEnumA, iZipM, rFor, rLc, wipeE, List.getElem?_cons_zero, List.getElem?_cons_succ, List.set_cons_zero, List.set_cons_succ, List.length_cons, List.length_nil, List.zip_cons_cons, List.zip_nil_right, List.foldl_cons, List.foldl_nil, Nat.zero_add, Nat.reduceAdd, decide_eq_true_eq, Bool.not_eq_true', Bool.not_true, Bool.not_false, decide_eq_false_iff_not, Bool.false_eq_true, if_false, if_true, ite_true, ite_false, true_and, and_true, reduceIte, ↓reduceIte, Sl.f.injEq, rAsgO, rgNameO, rParO, setK, kRepL, rStore, kGet3, kRevA, rgLst, kRep, aStar, rPop1, rPopA, rBrk, rCnt, ix_two, ix_three, shp1, shp2, shp3, eqv2, eqv3, kIsTup, kIsLst, kIsInt, kIsBool, kIsStr, kIsDict, kJoin, kRepL, kAddL, rStore, rStoreI, kStr, kGet3, kRevA, rgLst, kRep, iZipX, aStar, rPop1, rPopA, rBrk, rCnt, List.dropLast_concat, List.getLast?_append, List.getLast?_singleton, Option.some_or, rAsgO, rgNameO, rParO, setK, Nat.reduceEqDiff, ix_zero, ix_one, ix_last, kInN, kIn, kNotIn, rLRg1, rLRg2, kInD, kInX, rIndexM, kReprE, kEqZ, kNeZ, kRepS, rSlStr, rExtA, flatD, List.all_cons, List.all_nil, Bool.and_self, Bool.and_true, List.any_cons, List.any_nil, not_true_eq_false, Int.zero_add, Nat.zero_le, sz1, sz2, sz3, sz4, sz5, sz6, sz7, sz8, sz9, sz10, sz11, sz12, Int.reduceLT, Int.reduceLE, Nat.reduceLT, Int.reduceAdd, Int.reduceMul, Int.reduceSub, Int.reduceNeg, Int.reducePow, Int.reduceToNat, Int.reduceDiv, Int.reduceMod, Nat.reducePow, decide_true, decide_false, ne_eq, not_false_eq_true, Bool.true_eq_false, if_true, if_false, i_law_is_int, q_r_law_is_int_1, S_law_common])
def S_law_is_fraction : KC := fun ds P => match ds with
  | [d] => layE d = true ∧ P (.bool (frB d))
  | _ => False
theorem S_law_is_fraction_ok : ∀ ds P, S_law_is_fraction ds P → B_law_is_fraction ds P := by
  intro ds P h
  unfold S_law_is_fraction at h
  split at h
  · rename_i d
    obtain ⟨lay, hP⟩ := h
    refine ⟨rfl, ?_⟩
    show r_law_is_fraction_3 [.f d, .u] _
    unfold r_law_is_fraction_3
    have no : ∀ {d : PyData} {a1 : Sl} {M : ME}, M.rt = P → P (.bool false) → r_law_is_fraction_1 [.f d, a1] M := fun {d a1 M} e h => by
      unfold r_law_is_fraction_1
      walk_at "law_is_fraction0"
      rw [e]
      exact h
    cases d with
    | dict ds =>
      obtain rfl : ds = [] := by simpa [layE] using lay
      walk_at "law_is_fraction0"
      exact no rfl hP
    | tuple ds =>
      walk_at "law_is_fraction0"
      match ds, hP, lay with
      | [], hP, lay =>
        rw [if_pos (by decide)]
        exact no rfl hP
      | [x], hP, lay =>
        rw [if_pos (by simp)]
        rw [frB_len (by simp)] at hP
        exact no rfl hP
      | x :: y :: z :: ds, hP, lay =>
        rw [if_pos (by simp only [List.length_cons]; omega)]
        rw [frB_len (by simp)] at hP
        exact no rfl hP
      | [x, y], hP, lay =>
        rw [if_neg (by simp)]
        have lx := layE_tup lay
        refine lc_filtId (fun d => !poB d) [x, y] (by rw [sizeLine_eq]; exact Nat.le_of_ble_eq_true rfl) (fun u hu Q hQ => ?_) ?_
        · have lu := lx u hu
          cases u with
          | dict ds =>
            obtain rfl : ds = [] := by simpa [layE] using lu
            walk_at "law_is_fraction0"; exact hQ
          | int i =>
            walk_at "law_is_fraction0"
            have en : poB (.int i) = decide (0 < i) := rfl
            rw [en] at hQ
            by_cases c : i < 1
            · rw [if_pos c]
              rw [decide_eq_false (by omega)] at hQ
              exact hQ
            · rw [if_neg c]
              rw [decide_eq_true (by omega)] at hQ
              exact hQ
          | _ => walk_at "law_is_fraction0"; exact hQ
        cases hx : poB x with
        | false =>
          have e : ([x, y].filter fun d => !poB d).isEmpty = false := by rw [List.filter_cons, hx]; rfl
          rw [e, if_pos rfl]
          rw [frB_po (by rw [hx]; rfl)] at hP
          exact no rfl hP
        | true =>
          cases hy : poB y with
          | false =>
            have e : ([x, y].filter fun d => !poB d).isEmpty = false := by rw [List.filter_cons, hx, List.filter_cons, hy]; rfl
            rw [e, if_pos rfl]
            rw [frB_po (by rw [hx, hy]; rfl)] at hP
            exact no rfl hP
          | true =>
            have e : ([x, y].filter fun d => !poB d).isEmpty = true := by rw [List.filter_cons, hx, List.filter_cons, hy]; rfl
            rw [e, if_neg (by decide)]
            obtain ⟨a, rfl, a0⟩ := poB_int hx
            obtain ⟨b, rfl, b0⟩ := poB_int hy
            have ep : frB (.tuple [.int a, .int b]) = decide (Int.gcd a b = 1) := by
              show (decide (0 < a) && (decide (0 < b) && decide (Int.gcd a b = 1))) = _
              rw [decide_eq_true a0, decide_eq_true b0, Bool.true_and, Bool.true_and]
            rw [ep] at hP
            unfold r_law_is_fraction_2
            walk_at "law_is_fraction0"
            rw [show decide (((Int.gcd a b : Nat) : Int) = 1) = decide (Int.gcd a b = 1) from decide_eq_decide.mpr (by omega)]
            exact hP
    | _ => walk_at "law_is_fraction0"; exact no rfl hP
  · exact h.elim
/-! _law_fault(x, value): slots 0 x, 1 value, 2 i, 3 p, 4 q, 5 one -/
def r_law_fault_1 : RS := (rRet (rTupM (aCons (rC (.str "form")) aNil)))
def r_law_fault_2 : RS := (rRet (rTupM (aCons (rC (.str "first")) aNil)))
def r_law_fault_3 : RS := (rRet (rTupM (aCons (rC (.str "son")) (aCons (rVar 2) aNil))))
def r_law_fault_4 : RS := (rIte (tB' (rOp (kInX true) (rOp kIx (rVarW 1) (rVarW 2)) (rTupM (aCons (rTupM (aCons (rVar 3) (aCons (rOp kAdd (rVarW 3) (rVarW 4)) aNil))) (aCons (rTupM (aCons (rOp kAdd (rVarW 3) (rVarW 4)) (aCons (rVar 4) aNil))) aNil))))) r_law_fault_3 rPass)
theorem q_r_law_fault_4 (x : Sl) (xs : En) (M : ME) : r_law_fault_4 (x :: xs) M = ((rIte (tB' (rOp (kInX true) (rOp kIx (rVarW 1) (rVarW 2)) (rTupM (aCons (rTupM (aCons (rVar 3) (aCons (rOp kAdd (rVarW 3) (rVarW 4)) aNil))) (aCons (rTupM (aCons (rOp kAdd (rVarW 3) (rVarW 4)) (aCons (rVar 4) aNil))) aNil))))) r_law_fault_3 rPass)) (x :: xs) M := rfl
def r_law_fault_5 : RS := rSeq (rAsg (rOp kIx (rVarW 1) (rOp kSub (rVarW 2) (rC (.int 1)))) (rgTup 2 (rgCons (rgName 3) (rgCons (rgName 4) rgNil)))) r_law_fault_4
def r_law_fault_6 : RS := (rRet (rIf (tB' (rOp kNeZ (rOp kIx (rVarW 1) (rUn kNeg (rC (.int 1)))) (rVarW 0))) (rTupM (aCons (rC (.str "last")) aNil)) (rC .none)))
def r_law_fault_7 : RS := rSeq (rFor (iRange2 (aCons (rC (.int 1)) (aCons (rFn kLen (aCons (rVarW 1) aNil)) aNil))) (rgName 2) r_law_fault_5) r_law_fault_6
def r_law_fault_8 : RS := rSeq (rIte (tB' (rOp kNeZ (rOp kIx (rVarW 1) (rC (.int 0))) (rTupM (aCons (rC (.int 1)) (aCons (rC (.int 1)) aNil))))) r_law_fault_2 rPass) r_law_fault_7
def r_law_fault_9 : RS := rSeq (rIte (tOrM (tNotM (tB' (rUn kIsTup (rVarW 1)))) (tOrM (tB' (rOp kEqZ (rVarW 1) (rTupM aNil))) (tB' (rOp kNeZ (rLc [5] (iSeq (rVarW 1)) (rgName 5) (tNotM (tB' (rFn S_law_is_fraction (aCons (rVar 5) aNil)))) (rVar 5)) (rLstM aNil))))) r_law_fault_1 rPass) r_law_fault_8
theorem q_r_law_fault_9 (x : Sl) (xs : En) (M : ME) : r_law_fault_9 (x :: xs) M = (rSeq (rIte (tOrM (tNotM (tB' (rUn kIsTup (rVarW 1)))) (tOrM (tB' (rOp kEqZ (rVarW 1) (rTupM aNil))) (tB' (rOp kNeZ (rLc [5] (iSeq (rVarW 1)) (rgName 5) (tNotM (tB' (rFn S_law_is_fraction (aCons (rVar 5) aNil)))) (rVar 5)) (rLstM aNil))))) r_law_fault_1 rPass) r_law_fault_8) (x :: xs) M := rfl
def B_law_fault : KC := rDef 2 6 r_law_fault_9
local macro_rules | `(tactic| walk_at "law_fault") => `(tactic| simp only [rSeq, rSet, rSetO, rRet, rRetN, rPass_nx, rDrop, rIte, rFrz, rApp, rExt, rExtA, rAsg, rPar, rgName, rgTup, rgCons, rgNil, rVar, rVarW, rC, rOp, rUn, rFn, aNil, aCons, rTupM, rLstM, rIf, tB', tAndM, tOrM, tNotM, rAndV, rOrV, rNotV, rChain, kAdd, kSub, kMul, kDiv, kMod, kDivN, kModN, kPow, kShl, kCmp, kEq, kNe, kIs, kIsNot, isNoneD, kNeg, kIx, kRev, kLen, kAbs, kMax2, kMin2, kInt, kGcd, kTuple, kList, kRepr, rSl, oNone, oSome, rYes, iSeq, seqP, iRange1, iRange2, iRange3, iEnumA, iZipM, rFor, rLc, wipeE, List.getElem?_cons_zero, List.getElem?_cons_succ, List.set_cons_zero, List.set_cons_succ, List.length_cons, List.length_nil, List.zip_cons_cons, List.zip_nil_right, List.foldl_cons, List.foldl_nil, Nat.zero_add, Nat.reduceAdd, decide_eq_true_eq, Bool.not_eq_true', Bool.not_true, Bool.not_false, decide_eq_false_iff_not, Bool.false_eq_true, if_false, if_true, ite_true, ite_false, true_and, and_true, reduceIte, ↓reduceIte, Sl.f.injEq, rAsgO, rgNameO, rParO, setK, kRepL, rStore, kGet3, kRevA, rgLst, kRep, aStar, rPop1, rPopA, rBrk, rCnt, ix_two, ix_three, shp1, shp2, shp3, eqv2, eqv3, kIsTup, kIsLst, kIsInt, kIsBool, kIsStr, kIsDict, kJoin, kRepL, kAddL, rStore, rStoreI, kStr, kGet3, kRevA, rgLst, kRep, iZipX, aStar, rPop1, rPopA, rBrk, rCnt, List.dropLast_concat, List.getLast?_append, List.getLast?_singleton, Option.some_or, rAsgO, rgNameO, rParO, setK, Nat.reduceEqDiff, ix_zero, ix_one, ix_last, kInN, kIn, kNotIn, rLRg1, rLRg2, kInD, kInX, rIndexM, kReprE, kEqZ, kNeZ, kRepS, rSlStr, rExtA, flatD, List.all_cons, List.all_nil, Bool.and_self, Bool.and_true, List.any_cons, List.any_nil, not_true_eq_false, Int.zero_add, Nat.zero_le, sz1, sz2, sz3, sz4, sz5, sz6, sz7, sz8, sz9, sz10, sz11, sz12, Int.reduceLT, Int.reduceLE, Nat.reduceLT, Int.reduceAdd, Int.reduceMul, Int.reduceSub, Int.reduceNeg, Int.reducePow, Int.reduceToNat, Int.reduceDiv, Int.reduceMod, Nat.reducePow, decide_true, decide_false, ne_eq, not_false_eq_true, Bool.true_eq_false, if_true, if_false, q_r_law_fault_4, q_r_law_fault_9, S_law_is_fraction])
local macro_rules | `(tactic| walk_at "law_fault0") => `(tactic| simp only [rSeq, rSet, rSetO, rRet, rRetN, rPass_nx, rDrop, rIte, rFrz, rApp, rExt, rExtA, rAsg, rPar, rgName, rgTup, rgCons, rgNil, rVar, rVarW, rC, rOp, rUn, rFn, aNil, aCons, rTupM, rLstM, rIf, tB', tAndM, tOrM, tNotM, rAndV, rOrV, rNotV, rChain, kAdd, kSub, kMul, kDiv, kMod, kDivN, kModN, kPow, kShl, kCmp, kEq, kNe, kIs, kIsNot, isNoneD, kNeg, kIx, kRev, kLen, kAbs, kMax2, kMin2, kInt, kGcd, kTuple, kList, kRepr, rSl, oNone, oSome, rYes, iSeq, seqP, iRange1, iRange2, iRange3, iEnumA, iZipM, rFor, rLc, wipeE, List.getElem?_cons_zero, List.getElem?_cons_succ, List.set_cons_zero, List.set_cons_succ, List.length_cons, List.length_nil, List.zip_cons_cons, List.zip_nil_right, List.foldl_cons, List.foldl_nil, Nat.zero_add, Nat.reduceAdd, decide_eq_true_eq, Bool.not_eq_true', Bool.not_true, Bool.not_false, decide_eq_false_iff_not, Bool.false_eq_true, if_false, if_true, ite_true, ite_false, true_and, and_true, reduceIte, ↓reduceIte, Sl.f.injEq, rAsgO, rgNameO, rParO, setK, kRepL, rStore, kGet3, kRevA, rgLst, kRep, aStar, rPop1, rPopA, rBrk, rCnt, ix_two, ix_three, shp1, shp2, shp3, eqv2, eqv3, kIsTup, kIsLst, kIsInt, kIsBool, kIsStr, kIsDict, kJoin, kRepL, kAddL, rStore, rStoreI, kStr, kGet3, kRevA, rgLst, kRep, iZipX, aStar, rPop1, rPopA, rBrk, rCnt, List.dropLast_concat, List.getLast?_append, List.getLast?_singleton, Option.some_or, rAsgO, rgNameO, rParO, setK, Nat.reduceEqDiff, ix_zero, ix_one, ix_last, kInN, kIn, kNotIn, rLRg1, rLRg2, kInD, kInX, rIndexM, kReprE, kEqZ, kNeZ, kRepS, rSlStr, rExtA, flatD, List.all_cons, List.all_nil, Bool.and_self, Bool.and_true, List.any_cons, List.any_nil, not_true_eq_false, Int.zero_add, Nat.zero_le, sz1, sz2, sz3, sz4, sz5, sz6, sz7, sz8, sz9, sz10, sz11, sz12, Int.reduceLT, Int.reduceLE, Nat.reduceLT, Int.reduceAdd, Int.reduceMul, Int.reduceSub, Int.reduceNeg, Int.reducePow, Int.reduceToNat, Int.reduceDiv, Int.reduceMod, Nat.reducePow, decide_true, decide_false, ne_eq, not_false_eq_true, Bool.true_eq_false, if_true, if_false, S_law_is_fraction])
def S_law_fault : KC := fun ds P => match ds with
  | [.tuple [.int p, .int q], d] => Vk W30 (10 ^ 21) 20000 10 d ∧ P (jp (p, q) d)
  | _ => False
theorem S_law_fault_ok : ∀ ds P, S_law_fault ds P → B_law_fault ds P := by
  intro ds P h
  unfold S_law_fault at h
  split at h
  · rename_i p q d
    obtain ⟨hv, hP⟩ := h
    refine ⟨rfl, ?_⟩
    show r_law_fault_9 [.f (.tuple [.int p, .int q]), .f d, .u, .u, .u, .u] _
    unfold r_law_fault_9
    have no : ∀ {d : PyData} {M : ME}, M.rt = P → P fF → r_law_fault_1 [.f (.tuple [.int p, .int q]), .f d, .u, .u, .u, .u] M := fun {d M} e h => by
      unfold r_law_fault_1
      walk_at "law_fault0"
      rw [e]
      exact h
    cases d with
    | dict ds =>
      obtain rfl := gB_dict hv.g
      walk_at "law_fault0"
      exact no rfl hP
    | tuple ds =>
      walk_at "law_fault0"
      have hlen := (gB_tup hv.g).1
      have ej : jp (p, q) (.tuple ds) = if ds.isEmpty = false ∧ ds.all frB = true then jpD (p, q) (ds.map toP) else fF := rfl
      rw [ej] at hP
      cases he : ds.isEmpty with
      | true =>
        rw [if_pos rfl]
        rw [if_neg (fun z => by rw [he] at z; cases z.1)] at hP
        exact no rfl hP
      | false =>
        rw [if_neg (by decide)]
        refine lc_filtId (fun d => !frB d) ds (by rw [sizeLine_eq]; omega) (fun u hu Q hQ => ?_) ?_
        · walk_at "law_fault0"
          refine ⟨layE_tup hv.lay u hu, ?_⟩
          cases hb : frB u with
          | true => rw [hb] at hQ; exact hQ
          | false => rw [hb] at hQ; exact hQ
        have fe : (ds.filter fun d => !frB d).isEmpty = ds.all frB := by
          clear ej hP hv hlen he
          induction ds with
          | nil => rfl
          | cons x l ih =>
            rw [List.filter_cons, List.all_cons, ← ih]
            cases frB x <;> simp
        rw [fe]
        cases ha : ds.all frB with
        | false =>
          rw [if_pos rfl]
          rw [if_neg (fun z => by rw [ha] at z; cases z.2)] at hP
          exact no rfl hP
        | true =>
          rw [if_neg (by decide)]
          rw [if_pos ⟨he, ha⟩] at hP
          obtain ⟨L, rfl⟩ := fr_list ha
          rw [toP_map] at hP
          rw [List.length_map] at hlen
          have l0 : 0 < L.length := List.length_pos_iff.mpr fun z => by subst z; cases he
          have e11 : PyData.tuple [PyData.int 1, PyData.int 1] = pF (1, 1) := rfl
          have epq : PyData.tuple [PyData.int p, PyData.int q] = pF (p, q) := rfl
          unfold jpD at hP
          unfold r_law_fault_8
          walk_at "law_fault0"
          refine ⟨_, at_pF L l0, ?_⟩
          rw [pF_eq (L.getD 0 (0, 0))]
          walk_at "law_fault0"
          by_cases c0 : L.getD 0 (0, 0) = (1, 1)
          rotate_left
          · rw [if_neg c0] at hP
            rw [if_pos (fun z => c0 (Prod.ext z.1 z.2))]
            unfold r_law_fault_2
            walk_at "law_fault0"
            exact hP
          rw [if_pos c0] at hP
          rw [if_neg (fun z => z (by rw [c0]; exact ⟨rfl, rfl⟩))]
          unfold r_law_fault_7
          walk_at "law_fault0"
          rw [List.length_map, show ((L.length : Int) - 1).toNat = L.length - 1 by omega]
          refine ⟨by omega, ?_⟩
          refine for_rng 1 (L.length - 1) (fun j e => ∃ a2 a3 a4 : Sl, e = [.f (.tuple [.int p, .int q]), .f (.tuple (L.map pF)), a2, a3, a4, .u] ∧ ∀ i, i < j → sonB L i = true) ⟨_, _, _, rfl, fun i hi => absurd hi (by omega)⟩ (fun j e hj hE M' hnx hct hrt hbk => ?_) fun e hE => ?_
          · obtain ⟨a2, a3, a4, rfl, hs⟩ := hE
            rw [show 1 + (j : Int) = ((j + 1 : Nat) : Int) by omega]
            unfold r_law_fault_5
            walk_at "law_fault0"
            rw [show ((j + 1 : Nat) : Int) - 1 = (j : Int) by omega]
            refine ⟨_, at_pF L (by omega), ?_⟩
            rw [pF_eq (L.getD j (0, 0))]
            refine ⟨rfl, ?_⟩
            show r_law_fault_4 [.f (.tuple [.int p, .int q]), .f (.tuple (L.map pF)), .f (.int ((j + 1 : Nat) : Int)), .f (.int (L.getD j (0, 0)).1), .f (.int (L.getD j (0, 0)).2), .u] M'
            unfold r_law_fault_4
            walk_at "law_fault0"
            refine ⟨_, at_pF L (by omega), ?_⟩
            have es : sonB L j = (decide (L.getD (j + 1) (0, 0) = ((L.getD j (0, 0)).1, (L.getD j (0, 0)).1 + (L.getD j (0, 0)).2)) || decide (L.getD (j + 1) (0, 0) = ((L.getD j (0, 0)).1 + (L.getD j (0, 0)).2, (L.getD j (0, 0)).2))) := rfl
            have h1 := hs
            refine ⟨pF_sh _, two_sh ((L.getD j (0, 0)).1, (L.getD j (0, 0)).1 + (L.getD j (0, 0)).2) ((L.getD j (0, 0)).1 + (L.getD j (0, 0)).2, (L.getD j (0, 0)).2), ?_⟩
            rw [← pF_eq ((L.getD j (0, 0)).1, (L.getD j (0, 0)).1 + (L.getD j (0, 0)).2), ← pF_eq ((L.getD j (0, 0)).1 + (L.getD j (0, 0)).2, (L.getD j (0, 0)).2), pF_eqv, pF_eqv, Bool.or_false]
            have e2 : (decide (((L.getD j (0, 0)).1, (L.getD j (0, 0)).1 + (L.getD j (0, 0)).2) = L.getD (j + 1) (0, 0)) || decide (((L.getD j (0, 0)).1 + (L.getD j (0, 0)).2, (L.getD j (0, 0)).2) = L.getD (j + 1) (0, 0))) = sonB L j := by
              rw [es]
              congr 1
              · exact decide_eq_decide.mpr ⟨Eq.symm, Eq.symm⟩
              · exact decide_eq_decide.mpr ⟨Eq.symm, Eq.symm⟩
            rw [e2]
            cases hb : sonB L j with
            | true =>
              rw [if_neg (by decide)]
              refine hnx _ ⟨_, _, _, rfl, fun i hi => ?_⟩
              by_cases c : i < j
              · exact hs i c
              · have : i = j := by omega
                subst this; exact hb
            | false =>
              rw [if_pos rfl]
              rw [sn_some (by omega) hb hs] at hP
              unfold r_law_fault_3
              walk_at "law_fault0"
              rw [hrt]
              exact hP
          · obtain ⟨a2, a3, a4, rfl, hs⟩ := hE
            rw [sn_none hs] at hP
            dsimp only at hP
            unfold r_law_fault_6
            walk_at "law_fault0"
            refine ⟨_, at_last L l0, pF_sh _, ?_⟩
            rw [epq, pF_eqv]
            by_cases c : L.getD (L.length - 1) (0, 0) = (p, q)
            · rw [if_pos c] at hP
              rw [decide_eq_true c, if_neg (by decide)]
              exact hP
            · rw [if_neg c] at hP
              rw [decide_eq_false c, if_pos rfl]
              exact hP
    | _ => walk_at "law_fault0"; exact no rfl hP
  · exact h.elim
/-! law(script): slots 0 script, 1 source, 2 odd, 3 lap, 4 x, 5 told, 6 i, 7 other, 8 some, 9 p, 10 q, 11 value, 12 held, 13 due, 14 turn -/
def r_law_1 : RS := (rRet (rC (.bool false)))
def r_law_2 : RS := (rRet (rC (.bool false)))
def r_law_3 : RS := (rIte (tOrM (tB' (rOp kNeZ (rFn kReprE (aCons (rFn S_judge_place (aCons (rVar 4) (aCons (rVar 11) aNil))) aNil)) (rFn kReprE (aCons (rVarW 13) aNil)))) (tB' (rOp kNeZ (rFn kReprE (aCons (rVarW 11) aNil)) (rVarW 12)))) r_law_2 rPass)
theorem q_r_law_3 (x : Sl) (xs : En) (M : ME) : r_law_3 (x :: xs) M = ((rIte (tOrM (tB' (rOp kNeZ (rFn kReprE (aCons (rFn S_judge_place (aCons (rVar 4) (aCons (rVar 11) aNil))) aNil)) (rFn kReprE (aCons (rVarW 13) aNil)))) (tB' (rOp kNeZ (rFn kReprE (aCons (rVarW 11) aNil)) (rVarW 12)))) r_law_2 rPass)) (x :: xs) M := rfl
def r_law_4 : RS := rSeq (rPar [12, 13] (aCons (rFn kReprE (aCons (rVarW 11) aNil)) (aCons (rFn S_law_fault (aCons (rVar 4) (aCons (rVar 11) aNil))) aNil))) r_law_3
def r_law_5 : RS := (rFor (iSeq (rOp kAdd (rVarW 8) (rLc [14] (iRange1 (aCons (rC (.int 6)) aNil)) (rgName 14) rYes (rFn (S_law_bent 3) (aCons (rVar 1) (aCons (rVar 5) (aCons (rVar 2) aNil))))))) (rgName 11) r_law_4)
theorem q_r_law_5 (x : Sl) (xs : En) (M : ME) : r_law_5 (x :: xs) M = ((rFor (iSeq (rOp kAdd (rVarW 8) (rLc [14] (iRange1 (aCons (rC (.int 6)) aNil)) (rgName 14) rYes (rFn (S_law_bent 3) (aCons (rVar 1) (aCons (rVar 5) (aCons (rVar 2) aNil))))))) (rgName 11) r_law_4)) (x :: xs) M := rfl
def r_law_6 : RS := rSeq (rSet 8 (rOp kAdd (rVarW 8) (rLstM (aCons (rOp kAdd (rVarW 5) (rTupM (aCons (rTupM (aCons (rOp kAdd (rVarW 9) (rVarW 10)) (aCons (rVar 10) aNil))) aNil))) (aCons (rOp kAdd (rSl (rVarW 5) oNone (oSome (rVarW 6))) (rSl (rVarW 5) (oSome (rOp kAdd (rVarW 6) (rC (.int 1)))) oNone)) aNil))))) r_law_5
theorem q_r_law_6 (x : Sl) (xs : En) (M : ME) : r_law_6 (x :: xs) M = (rSeq (rSet 8 (rOp kAdd (rVarW 8) (rLstM (aCons (rOp kAdd (rVarW 5) (rTupM (aCons (rTupM (aCons (rOp kAdd (rVarW 9) (rVarW 10)) (aCons (rVar 10) aNil))) aNil))) (aCons (rOp kAdd (rSl (rVarW 5) oNone (oSome (rVarW 6))) (rSl (rVarW 5) (oSome (rOp kAdd (rVarW 6) (rC (.int 1)))) oNone)) aNil))))) r_law_5) (x :: xs) M := rfl
def r_law_7 : RS := rSeq (rAsg (rOp kIx (rVarW 5) (rUn kNeg (rC (.int 1)))) (rgTup 2 (rgCons (rgName 9) (rgCons (rgName 10) rgNil)))) r_law_6
theorem q_r_law_7 (x : Sl) (xs : En) (M : ME) : r_law_7 (x :: xs) M = (rSeq (rAsg (rOp kIx (rVarW 5) (rUn kNeg (rC (.int 1)))) (rgTup 2 (rgCons (rgName 9) (rgCons (rgName 10) rgNil)))) r_law_6) (x :: xs) M := rfl
def r_law_8 : RS := rSeq (rSet 8 (rOp kAdd (rVarW 8) (rLstM (aCons (rOp kAdd (rOp kAdd (rSl (rVarW 5) oNone (oSome (rVarW 6))) (rTupM (aCons (rVar 7) aNil))) (rSl (rVarW 5) (oSome (rOp kAdd (rVarW 6) (rC (.int 1)))) oNone)) (aCons (rOp kAdd (rOp kAdd (rSl (rVarW 5) oNone (oSome (rVarW 6))) (rTupM (aCons (rFn kList (aCons (rOp kIx (rVarW 5) (rVarW 6)) aNil)) aNil))) (rSl (rVarW 5) (oSome (rOp kAdd (rVarW 6) (rC (.int 1)))) oNone)) (aCons (rVar 4) aNil)))))) r_law_7
theorem q_r_law_8 (x : Sl) (xs : En) (M : ME) : r_law_8 (x :: xs) M = (rSeq (rSet 8 (rOp kAdd (rVarW 8) (rLstM (aCons (rOp kAdd (rOp kAdd (rSl (rVarW 5) oNone (oSome (rVarW 6))) (rTupM (aCons (rVar 7) aNil))) (rSl (rVarW 5) (oSome (rOp kAdd (rVarW 6) (rC (.int 1)))) oNone)) (aCons (rOp kAdd (rOp kAdd (rSl (rVarW 5) oNone (oSome (rVarW 6))) (rTupM (aCons (rFn kList (aCons (rOp kIx (rVarW 5) (rVarW 6)) aNil)) aNil))) (rSl (rVarW 5) (oSome (rOp kAdd (rVarW 6) (rC (.int 1)))) oNone)) (aCons (rVar 4) aNil)))))) r_law_7) (x :: xs) M := rfl
def r_law_9 : RS := rSeq (rSet 8 (rLstM (aCons (rVar 5) (aCons (rSl (rVarW 5) oNone (oSome (rUn kNeg (rC (.int 1))))) (aCons (rOp kAdd (rVarW 5) (rSl (rVarW 5) (oSome (rUn kNeg (rC (.int 1)))) oNone)) (aCons (rSl (rVarW 5) (oSome (rC (.int 1))) oNone) (aCons (rUn kRevA (rVarW 5)) (aCons (rFn kList (aCons (rVarW 5) aNil)) (aCons (rC .none) (aCons (rTupM aNil) (aCons (rTupM (aCons (rVar 4) aNil)) (aCons (rTupM (aCons (rTupM (aCons (rC (.int 1)) (aCons (rC (.int 1)) aNil))) (aCons (rVar 4) aNil))) aNil)))))))))))) r_law_8
theorem q_r_law_9 (x : Sl) (xs : En) (M : ME) : r_law_9 (x :: xs) M = (rSeq (rSet 8 (rLstM (aCons (rVar 5) (aCons (rSl (rVarW 5) oNone (oSome (rUn kNeg (rC (.int 1))))) (aCons (rOp kAdd (rVarW 5) (rSl (rVarW 5) (oSome (rUn kNeg (rC (.int 1)))) oNone)) (aCons (rSl (rVarW 5) (oSome (rC (.int 1))) oNone) (aCons (rUn kRevA (rVarW 5)) (aCons (rFn kList (aCons (rVarW 5) aNil)) (aCons (rC .none) (aCons (rTupM aNil) (aCons (rTupM (aCons (rVar 4) aNil)) (aCons (rTupM (aCons (rTupM (aCons (rC (.int 1)) (aCons (rC (.int 1)) aNil))) (aCons (rVar 4) aNil))) aNil)))))))))))) r_law_8) (x :: xs) M := rfl
def r_law_10 : RS := rSeq (rPar [6, 7] (aCons (rFn S_law_pick (aCons (rVar 1) (aCons (rFn kLen (aCons (rVarW 5) aNil)) aNil))) (aCons (rFn S_law_fraction (aCons (rVar 1) aNil)) aNil))) r_law_9
def r_law_11 : RS := rSeq (rIte (tB' (rOp kIsNot (rFn S_law_fault (aCons (rVar 4) (aCons (rVar 5) aNil))) (rC .none))) r_law_1 rPass) r_law_10
theorem q_r_law_11 (x : Sl) (xs : En) (M : ME) : r_law_11 (x :: xs) M = (rSeq (rIte (tB' (rOp kIsNot (rFn S_law_fault (aCons (rVar 4) (aCons (rVar 5) aNil))) (rC .none))) r_law_1 rPass) r_law_10) (x :: xs) M := rfl
def r_law_12 : RS := rSeq (rSet 5 (rFn S_tree_way (aCons (rVar 4) aNil))) r_law_11
def r_law_13 : RS := (rIte (tB' (rOp kLt (rFn kSumA (aCons (rFn S_law_chain (aCons (rFn kMaxA (aCons (rVarW 4) aNil)) (aCons (rFn kMinA (aCons (rVarW 4) aNil)) aNil))) aNil)) (rC (.int 300)))) r_law_12 rPass)
theorem q_r_law_13 (x : Sl) (xs : En) (M : ME) : r_law_13 (x :: xs) M = ((rIte (tB' (rOp kLt (rFn kSumA (aCons (rFn S_law_chain (aCons (rFn kMaxA (aCons (rVarW 4) aNil)) (aCons (rFn kMinA (aCons (rVarW 4) aNil)) aNil))) aNil)) (rC (.int 300)))) r_law_12 rPass)) (x :: xs) M := rfl
def r_law_14 : RS := rSeq (rSet 4 (rFn S_law_fraction (aCons (rVar 1) aNil))) r_law_13
def r_law_15 : RS := (rRet (rOp kEqZ (rFn S_judge_place (aCons (rTupM (aCons (rC (.int 2)) (aCons (rC (.int 3)) aNil))) (aCons (rTupM (aCons (rTupM (aCons (rC (.int 1)) (aCons (rC (.int 1)) aNil))) (aCons (rTupM (aCons (rC (.int 2)) (aCons (rC (.int 3)) aNil))) aNil))) aNil))) (rTupM (aCons (rC (.str "son")) (aCons (rC (.int 1)) aNil)))))
def r_law_16 : RS := rSeq (rFor (iRange1 (aCons (rC (.int 4)) aNil)) (rgName 3) r_law_14) r_law_15
theorem q_r_law_16 (x : Sl) (xs : En) (M : ME) : r_law_16 (x :: xs) M = (rSeq (rFor (iRange1 (aCons (rC (.int 4)) aNil)) (rgName 3) r_law_14) r_law_15) (x :: xs) M := rfl
def r_law_17 : RS := rSeq (rSet 2 (rLstM (aCons (rC .none) (aCons (rC (.bool true)) (aCons (rC (.int 0)) (aCons (rC (.int 1)) (aCons (rUn kNeg (rC (.int 1))) (aCons (rC (.str "0")) (aCons (rTupM aNil) (aCons (rTupM (aCons (rC (.int 0)) aNil)) (aCons (rTupM (aCons (rC (.int 1)) (aCons (rC (.int 1)) aNil))) (aCons (rTupM (aCons (rC (.int 2)) (aCons (rC (.int 1)) aNil))) (aCons (rTupM (aCons (rC (.int 2)) (aCons (rC (.int 4)) aNil))) (aCons (rLstM aNil) (aCons (rC (.dict [])) (aCons (rOp kPow (rC (.int 10)) (rC (.int 20))) aNil)))))))))))))))) r_law_16
theorem q_r_law_17 (x : Sl) (xs : En) (M : ME) : r_law_17 (x :: xs) M = (rSeq (rSet 2 (rLstM (aCons (rC .none) (aCons (rC (.bool true)) (aCons (rC (.int 0)) (aCons (rC (.int 1)) (aCons (rUn kNeg (rC (.int 1))) (aCons (rC (.str "0")) (aCons (rTupM aNil) (aCons (rTupM (aCons (rC (.int 0)) aNil)) (aCons (rTupM (aCons (rC (.int 1)) (aCons (rC (.int 1)) aNil))) (aCons (rTupM (aCons (rC (.int 2)) (aCons (rC (.int 1)) aNil))) (aCons (rTupM (aCons (rC (.int 2)) (aCons (rC (.int 4)) aNil))) (aCons (rLstM aNil) (aCons (rC (.dict [])) (aCons (rOp kPow (rC (.int 10)) (rC (.int 20))) aNil)))))))))))))))) r_law_16) (x :: xs) M := rfl
def r_law_18 : RS := rSeq (rSet 1 (rFn S_law_open_cells (aCons (rVar 0) aNil))) r_law_17
theorem q_r_law_18 (x : Sl) (xs : En) (M : ME) : r_law_18 (x :: xs) M = (rSeq (rSet 1 (rFn S_law_open_cells (aCons (rVar 0) aNil))) r_law_17) (x :: xs) M := rfl
def B_law : KC := rDef 1 15 r_law_18
local macro_rules | `(tactic| walk_at "law") => `(tactic| simp only [rSeq, rSet, rSetO, rRet, rRetN, rPass_nx, rDrop, rIte, rFrz, rApp, rExt, rExtA, rAsg, rPar, rgName, rgTup, rgCons, rgNil, rVar, rVarW, rC, rOp, rUn, rFn, aNil, aCons, rTupM, rLstM, rIf, tB', tAndM, tOrM, tNotM, rAndV, rOrV, rNotV, rChain, kAdd, kSub, kMul, kDiv, kMod, kDivN, kModN, kPow, kShl, kCmp, kEq, kNe, kIs, kIsNot, isNoneD, kNeg, kIx, kRev, kLen, kAbs, kMax2, kMin2, kInt, kGcd, kTuple, kList, kRepr, rSl, oNone, oSome, rYes, iSeq, seqP, iRange1, iRange2, iRange3, iEnumA, iZipM, rFor, rLc, wipeE, List.getElem?_cons_zero, List.getElem?_cons_succ, List.set_cons_zero, List.set_cons_succ, List.length_cons, List.length_nil, List.zip_cons_cons, List.zip_nil_right, List.foldl_cons, List.foldl_nil, Nat.zero_add, Nat.reduceAdd, decide_eq_true_eq, Bool.not_eq_true', Bool.not_true, Bool.not_false, decide_eq_false_iff_not, Bool.false_eq_true, if_false, if_true, ite_true, ite_false, true_and, and_true, reduceIte, ↓reduceIte, Sl.f.injEq, rAsgO, rgNameO, rParO, setK, kRepL, rStore, kGet3, kRevA, rgLst, kRep, aStar, rPop1, rPopA, rBrk, rCnt, ix_two, ix_three, shp1, shp2, shp3, eqv2, eqv3, kIsTup, kIsLst, kIsInt, kIsBool, kIsStr, kIsDict, kJoin, kRepL, kAddL, rStore, rStoreI, kStr, kGet3, kRevA, rgLst, kRep, iZipX, aStar, rPop1, rPopA, rBrk, rCnt, List.dropLast_concat, List.getLast?_append, List.getLast?_singleton, Option.some_or, rAsgO, rgNameO, rParO, setK, Nat.reduceEqDiff, ix_zero, ix_one, ix_last, kInN, kIn, kNotIn, rLRg1, rLRg2, kInD, kInX, rIndexM, kReprE, kEqZ, kNeZ, kRepS, rSlStr, rExtA, flatD, List.all_cons, List.all_nil, Bool.and_self, Bool.and_true, List.any_cons, List.any_nil, not_true_eq_false, Int.zero_add, Nat.zero_le, sz1, sz2, sz3, sz4, sz5, sz6, sz7, sz8, sz9, sz10, sz11, sz12, Int.reduceLT, Int.reduceLE, Nat.reduceLT, Int.reduceAdd, Int.reduceMul, Int.reduceSub, Int.reduceNeg, Int.reducePow, Int.reduceToNat, Int.reduceDiv, Int.reduceMod, Nat.reducePow, decide_true, decide_false, ne_eq, not_false_eq_true, Bool.true_eq_false, if_true, if_false, q_r_law_3, q_r_law_5, q_r_law_6, q_r_law_7, q_r_law_8, q_r_law_9, q_r_law_11, q_r_law_13, q_r_law_16, q_r_law_17, q_r_law_18, S_law_open_cells, SOp, S_law_fraction, S_law_chain, S_tree_way, S_law_fault, S_law_pick, SPk, S_law_bent, S_judge_place])
local macro_rules | `(tactic| walk_at "law0") => `(tactic| simp only [rSeq, rSet, rSetO, rRet, rRetN, rPass_nx, rDrop, rIte, rFrz, rApp, rExt, rExtA, rAsg, rPar, rgName, rgTup, rgCons, rgNil, rVar, rVarW, rC, rOp, rUn, rFn, aNil, aCons, rTupM, rLstM, rIf, tB', tAndM, tOrM, tNotM, rAndV, rOrV, rNotV, rChain, kAdd, kSub, kMul, kDiv, kMod, kDivN, kModN, kPow, kShl, kCmp, kEq, kNe, kIs, kIsNot, isNoneD, kNeg, kIx, kRev, kLen, kAbs, kMax2, kMin2, kInt, kGcd, kTuple, kList, kRepr, rSl, oNone, oSome, rYes, iSeq, seqP, iRange1, iRange2, iRange3, iEnumA, iZipM, rFor, rLc, wipeE, List.getElem?_cons_zero, List.getElem?_cons_succ, List.set_cons_zero, List.set_cons_succ, List.length_cons, List.length_nil, List.zip_cons_cons, List.zip_nil_right, List.foldl_cons, List.foldl_nil, Nat.zero_add, Nat.reduceAdd, decide_eq_true_eq, Bool.not_eq_true', Bool.not_true, Bool.not_false, decide_eq_false_iff_not, Bool.false_eq_true, if_false, if_true, ite_true, ite_false, true_and, and_true, reduceIte, ↓reduceIte, Sl.f.injEq, rAsgO, rgNameO, rParO, setK, kRepL, rStore, kGet3, kRevA, rgLst, kRep, aStar, rPop1, rPopA, rBrk, rCnt, ix_two, ix_three, shp1, shp2, shp3, eqv2, eqv3, kIsTup, kIsLst, kIsInt, kIsBool, kIsStr, kIsDict, kJoin, kRepL, kAddL, rStore, rStoreI, kStr, kGet3, kRevA, rgLst, kRep, iZipX, aStar, rPop1, rPopA, rBrk, rCnt, List.dropLast_concat, List.getLast?_append, List.getLast?_singleton, Option.some_or, rAsgO, rgNameO, rParO, setK, Nat.reduceEqDiff, ix_zero, ix_one, ix_last, kInN, kIn, kNotIn, rLRg1, rLRg2, kInD, kInX, rIndexM, kReprE, kEqZ, kNeZ, kRepS, rSlStr, rExtA, flatD, List.all_cons, List.all_nil, Bool.and_self, Bool.and_true, List.any_cons, List.any_nil, not_true_eq_false, Int.zero_add, Nat.zero_le, sz1, sz2, sz3, sz4, sz5, sz6, sz7, sz8, sz9, sz10, sz11, sz12, Int.reduceLT, Int.reduceLE, Nat.reduceLT, Int.reduceAdd, Int.reduceMul, Int.reduceSub, Int.reduceNeg, Int.reducePow, Int.reduceToNat, Int.reduceDiv, Int.reduceMod, Nat.reducePow, decide_true, decide_false, ne_eq, not_false_eq_true, Bool.true_eq_false, if_true, if_false, S_law_open_cells, SOp, S_law_fraction, S_law_chain, S_tree_way, S_law_fault, S_law_pick, SPk, S_law_bent, S_judge_place])
def S_law : KC := fun ds P => ∃ ns : List Int, ds = [scrD ns] ∧ ns.length ≤ 63 ∧ P (.bool true)
theorem tw_ex : ∀ (n : Nat) (p q : Int), p + q ≤ n → 0 < p → 0 < q → Int.gcd p q = 1 → ∃ L, Tw p q L
  | 0, p, q, hn, p0, q0, _ => by omega
  | n + 1, p, q, hn, p0, q0, g => by
    rcases Int.lt_trichotomy p q with h | h | h
    · obtain ⟨L, hL⟩ := tw_ex n p (q - p) (by omega) p0 (by omega) (by
        first | (rw [Int.gcd_sub_self_right]; exact g) | (rw [Int.gcd_self_sub_right]; exact g))
      exact ⟨_, .lt p0 h hL⟩
    · subst h
      rw [Int.gcd_self] at g
      obtain rfl : p = 1 := by omega
      exact ⟨_, .one⟩
    · obtain ⟨L, hL⟩ := tw_ex n (p - q) q (by omega) (by omega) q0 (by
        first | (rw [Int.gcd_sub_self_left]; exact g) | (rw [Int.gcd_self_sub_left]; exact g))
      exact ⟨_, .gt q0 h hL⟩
theorem md_down {p q : Int} (p0 : 0 < p) : (q - p) % p = q % p ∧ (q - p) / p = q / p - 1 := by
  have h1 := Int.add_mul_emod_self_left q p (-1)
  have h2 := Int.add_mul_ediv_left q (b := p) (-1) (by omega)
  rw [show q + p * -1 = q - p by omega] at h1 h2
  exact ⟨h1, by omega⟩
theorem tw_len {p q : Int} {L : List (Int × Int)} (t : Tw p q L) : (∀ K, Cp p q K → (L.length : Int) = K.sum) ∧ (∀ K, Cp q p K → (L.length : Int) = K.sum) := by
  induction t with
  | one =>
    have : ∀ K, Cp 1 1 K → ((1 : Nat) : Int) = K.sum := fun K c => by
      have c1 : Cp 1 1 [1] := Cp.cons (h := 1) (k := 1) (L := []) (by decide) (by exact Cp.nil)
      rw [Cp_uniq c1 c]; rfl
    exact ⟨this, this⟩
  | @lt p q L p0 h t ih =>
    have one : ∀ K, Cp p q K → ((((p, q) :: L).length : Nat) : Int) = K.sum := fun K c => by
      cases c with
      | nil => omega
      | @cons _ _ M _ c =>
        obtain ⟨m, d⟩ := md_down (q := q) p0
        have := ih.1 _ (.cons p0 (by rw [m]; exact c))
        rw [d, List.sum_cons] at this
        rw [List.length_cons, List.sum_cons]; omega
    refine ⟨one, fun K c => ?_⟩
    cases c with
    | nil => omega
    | @cons _ _ M _ c =>
      rw [Int.emod_eq_of_lt (by omega) h] at c
      rw [Int.ediv_eq_zero_of_lt (by omega) h, List.sum_cons, Int.zero_add]; exact one _ c
  | @gt p q L q0 h t ih =>
    have one : ∀ K, Cp q p K → ((((p, q) :: L).length : Nat) : Int) = K.sum := fun K c => by
      cases c with
      | nil => omega
      | @cons _ _ M _ c =>
        obtain ⟨m, d⟩ := md_down (q := p) q0
        have := ih.2 _ (.cons q0 (by rw [m]; exact c))
        rw [d, List.sum_cons] at this
        rw [List.length_cons, List.sum_cons]; omega
    refine ⟨fun K c => ?_, one⟩
    cases c with
    | nil => omega
    | @cons _ _ M _ c =>
      rw [Int.emod_eq_of_lt (by omega) h] at c
      rw [Int.ediv_eq_zero_of_lt (by omega) h, List.sum_cons, Int.zero_add]; exact one _ c
theorem getD_l {α : Type} {R S : List α} {i : Nat} {d : α} (h : i < R.length) : (R ++ S).getD i d = R.getD i d := by
  rw [List.getD_eq_getElem?_getD, List.getElem?_append_left h, ← List.getD_eq_getElem?_getD]
theorem getD_e {α : Type} {R : List α} {x d : α} : (R ++ [x]).getD R.length d = x := by
  rw [List.getD_eq_getElem?_getD, List.getElem?_append_right (Nat.le_refl _), Nat.sub_self]; rfl
/-- from (1, 1) on to a fraction -/
structure Rw (p q : Int) (R : List (Int × Int)) : Prop where
  n : 0 < R.length
  h : R.getD 0 (0, 0) = (1, 1)
  s : ∀ i, i < R.length - 1 → sonB R i = true
  l : R.getD (R.length - 1) (0, 0) = (p, q)
  g : Int.gcd p q = 1
  b : ∀ x ∈ R, 0 < x.1 ∧ 0 < x.2 ∧ x.1 ≤ p ∧ x.2 ≤ q ∧ Int.gcd x.1 x.2 = 1
theorem Rw.snoc {a b p q : Int} {R : List (Int × Int)} (h : Rw a b R) (hp : (p, q) = (a, a + b) ∨ (p, q) = (a + b, b)) (g : Int.gcd p q = 1) (b0 : a ≤ p ∧ b ≤ q ∧ 0 < p ∧ 0 < q) : Rw p q (R ++ [(p, q)]) := by
  have hn := h.n
  have hl : (R ++ [(p, q)]).length = R.length + 1 := by rw [List.length_append, List.length_singleton]
  refine ⟨by omega, by rw [getD_l hn]; exact h.h, fun i hi => ?_, by rw [hl, Nat.add_sub_cancel]; exact getD_e, g, fun x hx => ?_⟩
  · by_cases c : i < R.length - 1
    · have := h.s i c
      unfold sonB at this ⊢
      rw [getD_l (by omega), getD_l (by omega)]
      exact this
    · have e : i = R.length - 1 := by omega
      unfold sonB
      rw [show i + 1 = R.length by omega, getD_e, e, getD_l (by omega), h.l]
      rcases hp with hp | hp
      · rw [decide_eq_true hp]; rfl
      · rw [decide_eq_true (p := (p, q) = (a + b, b)) hp, Bool.or_true]
  · rcases List.mem_append.mp hx with hx | hx
    · have := h.b x hx
      exact ⟨this.1, this.2.1, by omega, by omega, this.2.2.2.2⟩
    · rw [List.mem_singleton] at hx
      subst hx
      exact ⟨by omega, by omega, by simp, by simp, g⟩
theorem tw_row {p q : Int} {L : List (Int × Int)} (t : Tw p q L) : Rw p q L.reverse := by
  induction t with
  | one => exact ⟨by decide, rfl, fun i hi => by simp at hi, rfl, by decide, fun x hx => by
      rw [List.reverse_singleton, List.mem_singleton] at hx
      subst hx
      decide⟩
  | @lt p q L p0 h t ih =>
    rw [List.reverse_cons]
    refine ih.snoc (.inl (by congr 1; omega)) ?_ ⟨by omega, by omega, by omega, by omega⟩
    have := ih.g
    first | (rw [Int.gcd_sub_self_right] at this; exact this) | (rw [Int.gcd_self_sub_right] at this; exact this)
  | @gt p q L q0 h t ih =>
    rw [List.reverse_cons]
    refine ih.snoc (.inr (by congr 1; omega)) ?_ ⟨by omega, by omega, by omega, by omega⟩
    have := ih.g
    first | (rw [Int.gcd_sub_self_left] at this; exact this) | (rw [Int.gcd_self_sub_left] at this; exact this)
theorem jp_none {p q : Int} {R : List (Int × Int)} (h : Rw p q R) : jp (p, q) (.tuple (R.map pF)) = .none := by
  have e : jp (p, q) (.tuple (R.map pF)) = if (R.map pF).isEmpty = false ∧ (R.map pF).all frB = true then jpD (p, q) ((R.map pF).map toP) else fF := rfl
  have e1 : (R.map pF).isEmpty = false := by
    cases hr : R with
    | nil => have := h.n; rw [hr] at this; exact absurd this (by decide)
    | cons x l => rfl
  have e2 : (R.map pF).all frB = true := by
    rw [List.all_map, List.all_eq_true]
    intro x hx
    obtain ⟨h1, h2, _, _, h3⟩ := h.b x hx
    show (decide (0 < x.1) && (decide (0 < x.2) && decide (Int.gcd x.1 x.2 = 1))) = true
    rw [decide_eq_true h1, decide_eq_true h2, decide_eq_true h3]; rfl
  rw [e, if_pos ⟨e1, e2⟩, toP_map]
  unfold jpD
  rw [if_pos h.h, sn_none h.s]
  exact if_pos h.l
/-! values -/
def VV (d : PyData) : Prop := Vk W30 (10 ^ 21) 20000 10 d
def PV (d : PyData) : Prop := Vk W30 (10 ^ 21) 2 1 d
theorem iv {i : Int} (h : i.natAbs ≤ 10 ^ 21) : Vk W30 (10 ^ 21) 0 0 (.int i) := Vk.int h (by decide)
theorem pv2 {a b : Int} (ha : a.natAbs ≤ 10 ^ 21) (hb : b.natAbs ≤ 10 ^ 21) : PV (.tuple [.int a, .int b]) :=
  Vk.tup (n := 0) (k := 0) (m := 2) (All.cons (iv ha) (.cons (iv hb) .nil)) (by simp) (by decide) (by decide)
theorem pvl {a b : Int} (ha : a.natAbs ≤ 10 ^ 21) (hb : b.natAbs ≤ 10 ^ 21) : PV (.list [.int a, .int b]) :=
  Vk.lst (n := 0) (k := 0) (m := 2) (All.cons (iv ha) (.cons (iv hb) .nil)) (by simp) (by decide) (by decide)
theorem vvt {ds : List PyData} (h : All PV ds) (hl : ds.length ≤ 700) : VV (.tuple ds) := (Vk.tup (m := 700) h hl (by decide) (Nat.le_refl _)).mono (by decide) (by decide)
theorem vvl {ds : List PyData} (h : All PV ds) (hl : ds.length ≤ 700) : VV (.list ds) := (Vk.lst (m := 700) h hl (by decide) (Nat.le_refl _)).mono (by decide) (by decide)
def odd30 : List PyData := [.none, .bool true, .int 0, .int 1, .int (-1), .str "0", .tuple [], .tuple [.int 0], .tuple [.int 1, .int 1], .tuple [.int 2, .int 1], .tuple [.int 2, .int 4], .list [], .dict [], .int (10 ^ 20)]
theorem odd30_ok : ∀ x ∈ odd30, NV 0 x := by
  intro x hx
  simp only [odd30, List.mem_cons, List.not_mem_nil, or_false] at hx
  have up : ∀ {n k : Nat} {d : PyData}, Vk W30 (10 ^ 21) n k d → n ≤ 10 → k ≤ 3 → NV 0 d := fun h a b => h.mono a b
  rcases hx with rfl | rfl | rfl | rfl | rfl | rfl | rfl | rfl | rfl | rfl | rfl | rfl | rfl | rfl
  · exact up Vk.non (by decide) (by decide)
  · exact up Vk.bool (by decide) (by decide)
  · exact up (iv (by decide)) (by decide) (by decide)
  · exact up (iv (by decide)) (by decide) (by decide)
  · exact up (iv (by decide)) (by decide) (by decide)
  · exact up (Vk.str (n := 1) (by decide +kernel) (by decide +kernel) (by decide)) (by decide) (by decide)
  · exact up (Vk.tup (n := 0) (k := 0) (m := 2) (b := 2) All.nil (by simp) (by decide) (by decide)) (by decide) (by decide)
  · exact up (Vk.tup (n := 0) (k := 0) (m := 2) (b := 2) (All.cons (iv (by decide)) .nil) (by simp) (by decide) (by decide)) (by decide) (by decide)
  · exact up (pv2 (by decide) (by decide)) (by decide) (by decide)
  · exact up (pv2 (by decide) (by decide)) (by decide) (by decide)
  · exact up (pv2 (by decide) (by decide)) (by decide) (by decide)
  · exact up (Vk.lst (n := 0) (k := 0) (m := 2) (b := 2) All.nil (by simp) (by decide) (by decide)) (by decide) (by decide)
  · exact up Vk.emp (by decide) (by decide)
  · exact up (iv (by decide)) (by decide) (by decide)
def W31 : List Str := ["form", "first", "son", "last"]
theorem jpR (x : Int × Int) {d : PyData} (h : VV d) : ReprE (jp x d) := by
  have s1 : ∀ s : Str, s ∈ W31 → PyData.strOk s = true → s.cps.size ≤ 5 → ReprE (.tuple [.str s]) := fun s m a b =>
    (Vk.tup (ws := W31) (B := 10 ^ 21) (n := 5) (k := 0) (m := 2) (b := 12) (All.cons (Vk.str a b m) .nil) (by simp) (by decide) (by decide)).repr (by decide) (by decide)
  unfold jp
  split
  · rename_i ds
    have hl := (gB_tup h.g).1
    split
    · unfold jpD
      split
      · split
        · rename_i j e
          have hj : j < (ds.map toP).length := by
            have := List.mem_range.mp (List.mem_of_find?_eq_some e)
            omega
          rw [List.length_map] at hj
          exact (Vk.tup (ws := W31) (B := 10 ^ 21) (n := 5) (k := 0) (m := 2) (b := 12) (All.cons (Vk.str (by decide +kernel) (by decide +kernel) (by decide)) (.cons ((Vk.int (by omega) (by decide)).mono (by decide) (by decide)) .nil)) (by simp) (by decide) (by decide)).repr (by decide) (by decide)
        · split
          · exact (Vk.non (ws := W31) (B := 10 ^ 21)).repr (by decide) (by decide)
          · exact s1 _ (by decide) (by decide +kernel) (by decide +kernel)
      · exact s1 _ (by decide) (by decide +kernel) (by decide +kernel)
    · exact s1 _ (by decide) (by decide +kernel) (by decide +kernel)
  · exact s1 _ (by decide) (by decide +kernel) (by decide +kernel)
theorem law_4 {ns : List Int} {p q : Int} {v : PyData} (hv : VV v) {a2 a3 a5 a6 a7 a8 a9 a10 a12 a13 a14 : Sl} {M : ME} (hnx : ∀ b12 b13 : Sl, M.nx [.f (scrD ns), .f srcD, a2, a3, .f (.tuple [.int p, .int q]), a5, a6, a7, a8, a9, a10, .f v, b12, b13, a14]) :
    r_law_4 [.f (scrD ns), .f srcD, a2, a3, .f (.tuple [.int p, .int q]), a5, a6, a7, a8, a9, a10, .f v, a12, a13, a14] M := by
  have rv := hv.repr (by decide) (by decide)
  have rj := jpR (p, q) hv
  have hv' : Vk W30 (10 ^ 21) 20000 10 v := hv
  unfold r_law_4
  walk_at "law0"
  refine ⟨rv, hv', ?_⟩
  unfold r_law_3
  walk_at "law0"
  refine ⟨hv', rj, rj, ?_⟩
  exact ⟨rv, hnx _ _⟩
theorem law_5 {ns : List Int} {p q : Int} {R : List (Int × Int)} (hR : NI 2 (.tuple (R.map pF))) {vs : List PyData} (hvs : vs.length ≤ 30) (hv : All VV vs) {a3 a6 a7 a9 a10 a11 a12 a13 a14 : Sl} {M : ME} (hnx : ∀ e, Rest ns 13 e → e[2]? = some (.f (.list odd30)) → M.nx e) :
    r_law_5 [.f (scrD ns), .f srcD, .f (.list odd30), a3, .f (.tuple [.int p, .int q]), .f (.tuple (R.map pF)), a6, a7, .f (.list vs), a9, a10, a11, a12, a13, a14] M := by
  unfold r_law_5
  walk_at "law0"
  refine lc_pickG (fun d : PyData => d) VV 6 (by decide) (fun i hi Q hQ => ?_) fun ys hl hy => ?_
  · walk_at "law0"
    refine ⟨⟨by decide, by decide⟩, odd30_ok, ⟨by decide, hR⟩, fun r hr => hQ _ (hr.mono (by decide) (by decide))⟩
  · rw [List.map_id']
    refine ⟨by rw [sizeLine_eq]; omega, ?_⟩
    have go : forR (rgName 11) r_law_4 ((vs ++ ys).map fun d => d) [.f (scrD ns), .f srcD, .f (.list odd30), a3, .f (.tuple [.int p, .int q]), .f (.tuple (R.map pF)), a6, a7, .f (.list vs), a9, a10, a11, a12, a13, a14] M := by
      refine for_inv (fun d => d) (fun _ e => ∃ b11 b12 b13 : Sl, e = [.f (scrD ns), .f srcD, .f (.list odd30), a3, .f (.tuple [.int p, .int q]), .f (.tuple (R.map pF)), a6, a7, .f (.list vs), a9, a10, b11, b12, b13, a14]) (vs ++ ys) ⟨_, _, _, rfl⟩ (fun pre v post e hi hE M' hnx' hct hrt hbk => ?_) fun e hE => ?_
      · obtain ⟨b11, b12, b13, rfl⟩ := hE
        exact law_4 ((All.app hv hy) v (by rw [hi]; simp)) fun b12 b13 => hnx' _ ⟨_, _, _, rfl⟩
      · obtain ⟨b11, b12, b13, rfl⟩ := hE
        exact hnx _ ⟨_, rfl, rfl⟩ rfl
    rw [List.map_id'] at go
    exact go
theorem allCut {P : PyData → Prop} {l : List PyData} (h : All P l) (a b : Option Int) : All P (cutD l a b) := by
  unfold cutD
  first | exact (h.drop _).take _ | exact (h.take _).drop _
theorem cut_len (l : List PyData) (a b : Option Int) : (cutD l a b).length ≤ l.length := by
  unfold cutD
  simp only [List.length_take, List.length_drop]
  omega
theorem Rw.pos {p q : Int} {R : List (Int × Int)} (X : Rw p q R) : 0 < p ∧ 0 < q := by
  have hn := X.n
  have h := X.l
  rw [List.getD_eq_getElem?_getD, List.getElem?_eq_getElem (by omega : R.length - 1 < R.length)] at h
  have h2 : R[R.length - 1]'(by omega) = (p, q) := h
  have := X.b _ (List.getElem_mem (by omega : R.length - 1 < R.length))
  rw [h2] at this
  exact ⟨this.1, this.2.1⟩
theorem law_10 {ns : List Int} {p q : Int} {R : List (Int × Int)} (X : Rw p q R) (hl : R.length ≤ 300) (p1 : p ≤ 10 ^ 12) (q1 : q ≤ 10 ^ 12) {a3 a6 a7 a8 a9 a10 a11 a12 a13 a14 : Sl} {M : ME} (hnx : ∀ e, Rest ns 13 e → e[2]? = some (.f (.list odd30)) → M.nx e) :
    r_law_10 [.f (scrD ns), .f srcD, .f (.list odd30), a3, .f (.tuple [.int p, .int q]), .f (.tuple (R.map pF)), a6, a7, a8, a9, a10, a11, a12, a13, a14] M := by
  have hR : NI 2 (.tuple (R.map pF)) := .inr ⟨_, rfl, by rw [List.length_map]; show _ ≤ 400; omega, fun u hu => by
    obtain ⟨x, hx, rfl⟩ := List.mem_map.mp hu
    have := X.b x hx
    refine .inr ⟨_, rfl, by show 2 ≤ 2; decide, fun v hv => ?_⟩
    simp only [List.mem_cons, List.not_mem_nil, or_false] at hv
    rcases hv with rfl | rfl
    · exact ⟨_, rfl, by omega⟩
    · exact ⟨_, rfl, by omega⟩⟩
  have aR : All PV (R.map pF) := fun u hu => by
    obtain ⟨x, hx, rfl⟩ := List.mem_map.mp hu
    have := X.b x hx
    exact pv2 (by omega) (by omega)
  have lR : (R.map pF).length = R.length := List.length_map _
  have hn := X.n
  unfold r_law_10
  walk_at "law0"
  refine ⟨by omega, fun i i0 i1 p' q' p0' q0' p1' q1' g' => ?_⟩
  obtain ⟨k, rfl⟩ := Int.eq_ofNat_of_zero_le i0
  have hk : k < R.length := by omega
  unfold r_law_9
  walk_at "law0"
  have cl := fun a b => cut_len (R.map pF) a b
  have c1 := cl (some (-1)) none
  refine ⟨by rw [sizeLine_eq]; omega, ?_⟩
  unfold r_law_8
  walk_at "law0"
  have c2 := cl none (some (k : Int))
  have c3 := cl (some ((k : Int) + 1)) none
  have c4 := cl none (some (-1))
  have c5 := cl (some 1) none
  refine ⟨by rw [sizeLine_eq]; omega, by rw [sizeLine_eq, List.length_append, List.length_singleton]; omega, _, at_pF R hk, ?_⟩
  rw [pF_eq]
  dsimp only
  refine ⟨by rw [sizeLine_eq]; omega, by rw [sizeLine_eq, List.length_append, List.length_singleton]; omega, by rw [sizeLine_eq]; decide, ?_⟩
  unfold r_law_7
  walk_at "law0"
  refine ⟨_, at_last R hn, ?_⟩
  rw [X.l, pF_eq]
  walk_at "law0"
  unfold r_law_6
  walk_at "law0"
  refine ⟨by rw [sizeLine_eq]; omega, by rw [sizeLine_eq]; omega, by rw [sizeLine_eq]; exact Nat.le_of_ble_eq_true rfl, ?_⟩
  refine law_5 hR (Nat.le_of_ble_eq_true rfl) ?_ hnx
  have b0 := X.b (R.getD k (0, 0)) (by rw [List.getD_eq_getElem?_getD, List.getElem?_eq_getElem hk]; exact List.getElem_mem hk)
  have pp := X.pos
  have x0 : PV (.tuple [.int p, .int q]) := pv2 (by omega) (by omega)
  have y0 : PV (.tuple [.int (p + q), .int q]) := pv2 (by omega) (by omega)
  have o0 : PV (.tuple [.int p', .int q']) := pv2 (by omega) (by omega)
  have l0 : PV (.list [.int (R.getD k (0, 0)).1, .int (R.getD k (0, 0)).2]) := pvl (by omega) (by omega)
  have e0 : PV (.tuple [.int 1, .int 1]) := pv2 (by decide) (by decide)
  have ac : ∀ a b, All PV (cutD (R.map pF) a b) := fun a b => allCut aR a b
  have v1 : ∀ a b, VV (.tuple (cutD (R.map pF) a b)) := fun a b => vvt (ac a b) (by have := cl a b; omega)
  have vn : VV .none := Vk.non.mono (by decide) (by decide)
  have vx : VV (.tuple [.int p, .int q]) := x0.mono (by decide) (by decide)
  have n0 : VV (.tuple []) := vvt .nil (by simp)
  have n1 : VV (.tuple [.tuple [.int p, .int q]]) := vvt (.cons x0 .nil) (by simp)
  have n2 : VV (.tuple [.tuple [.int 1, .int 1], .tuple [.int p, .int q]]) := vvt (.cons e0 (.cons x0 .nil)) (by simp)
  refine .app (.app (.cons (vvt aR (by omega)) (.cons (v1 _ _) (.cons (vvt (.app aR (ac _ _)) ?_) (.cons (v1 _ _) (.cons (vvt aR.rev ?_) (.cons (vvl aR (by omega)) (.cons vn (.cons n0 (.cons n1 (.cons n2 .nil)))))))))) (.cons (vvt (.app (.app (ac _ _) (.cons o0 .nil)) (ac _ _)) ?_) (.cons (vvt (.app (.app (ac _ _) (.cons l0 .nil)) (ac _ _)) ?_) (.cons vx .nil)))) (.cons (vvt (.app aR (.cons y0 .nil)) ?_) (.cons (vvt (.app (ac _ _) (ac _ _)) ?_) .nil))
  · rw [List.length_append]; omega
  · rw [List.length_reverse]; omega
  · rw [List.length_append, List.length_append, List.length_singleton]; omega
  · rw [List.length_append, List.length_append, List.length_singleton]; omega
  · rw [List.length_append, List.length_singleton]; omega
  · rw [List.length_append]; omega
theorem cpow_1020 : CPow 10 20 := by
  unfold CPow
  decide +kernel
theorem two_ints {p q : Int} {ns : List Int} (h : [PyData.int p, PyData.int q] = ns.map PyData.int) : ns = [p, q] := by
  have : (ns.map PyData.int).map (fun d => match d with | .int a => a | _ => 0) = ns := by rw [List.map_map]; exact List.map_id ns
  rw [← this, ← h]; rfl
theorem S_law_ok : ∀ ds P, S_law ds P → B_law ds P := by
  rintro ds P ⟨ns, rfl, hn, hP⟩
  refine ⟨rfl, ?_⟩
  show r_law_18 [.f (scrD ns), .u, .u, .u, .u, .u, .u, .u, .u, .u, .u, .u, .u, .u, .u] _
  unfold r_law_18
  walk_at "law0"
  refine ⟨⟨ns, rfl, hn⟩, ?_⟩
  unfold r_law_17
  walk_at "law0"
  refine ⟨cpow_1020, by rw [sizeLine_eq]; decide, ?_⟩
  rw [show (100000000000000000000 : Int) = 10 ^ 20 by decide]
  show rSeq (rFor (iRange1 (aCons (rC (PyData.int 4)) aNil)) (rgName 3) r_law_14) r_law_15 [.f (scrD ns), .f srcD, .f (.list odd30), .u, .u, .u, .u, .u, .u, .u, .u, .u, .u, .u, .u] _
  walk_at "law0"
  refine for_rng 0 4 (fun _ e => Rest ns 13 e ∧ e[2]? = some (.f (.list odd30))) (by refine ⟨⟨_, rfl, rfl⟩, ?_⟩; rfl) (fun i e hi hE M' hnx hct hrt hbk => ?_) fun e hE => ?_
  · obtain ⟨⟨r, rfl, hr⟩, h2⟩ := hE
    obtain ⟨a2, r2, rfl, hr2⟩ := len_succ hr; obtain ⟨a3, r3, rfl, hr3⟩ := len_succ hr2; obtain ⟨a4, r4, rfl, hr4⟩ := len_succ hr3; obtain ⟨a5, r5, rfl, hr5⟩ := len_succ hr4; obtain ⟨a6, r6, rfl, hr6⟩ := len_succ hr5; obtain ⟨a7, r7, rfl, hr7⟩ := len_succ hr6; obtain ⟨a8, r8, rfl, hr8⟩ := len_succ hr7; obtain ⟨a9, r9, rfl, hr9⟩ := len_succ hr8; obtain ⟨a10, r10, rfl, hr10⟩ := len_succ hr9; obtain ⟨a11, r11, rfl, hr11⟩ := len_succ hr10; obtain ⟨a12, r12, rfl, hr12⟩ := len_succ hr11; obtain ⟨a13, r13, rfl, hr13⟩ := len_succ hr12; obtain ⟨a14, r14, rfl, hr14⟩ := len_succ hr13; obtain rfl := len_zero hr14
    cases h2
    unfold r_law_14
    walk_at "law0"
    intro p q p0 q0 p1 q1 g
    unfold r_law_13
    walk_at "law0"
    refine ⟨[p, q], rfl, by simp, fun m hm hmx => ⟨[p, q], rfl, by simp, fun m2 hm2 hmn => ?_⟩⟩
    have hp1 := hmx p (by simp)
    have hq1 := hmx q (by simp)
    have hp2 := hmn p (by simp)
    have hq2 := hmn q (by simp)
    have hm : m = p ∨ m = q := by simpa using hm
    have hm2 : m2 = p ∨ m2 = q := by simpa using hm2
    refine ⟨⟨by omega, by omega⟩, fun K hK => ⟨K, rfl, ?_⟩⟩
    obtain ⟨L, hL⟩ := tw_ex (p + q).toNat p q (by omega) p0 q0 g
    have hs : (L.length : Int) = K.sum := by
      have h := tw_len hL
      by_cases c : p = q
      · have e1 : m = p := by omega
        have e2 : m2 = q := by omega
        rw [e1, e2] at hK
        exact h.2 _ hK
      · rcases hm with rfl | rfl
        · have e2 : m2 = q := by omega
          rw [e2] at hK
          exact h.2 _ hK
        · have e2 : m2 = p := by omega
          rw [e2] at hK
          exact h.1 _ hK
    walk_at "law0"
    by_cases c : K.sum < 300
    · rw [if_pos c]
      have X := tw_row hL
      have lR : L.reverse.length = L.length := List.length_reverse
      unfold r_law_12
      walk_at "law0"
      refine ⟨L, hL, by omega, ?_⟩
      generalize L.reverse = R at *
      unfold r_law_11
      walk_at "law0"
      have aR : All PV (R.map pF) := fun u hu => by
        obtain ⟨x, hx, rfl⟩ := List.mem_map.mp hu
        have := X.b x hx
        exact pv2 (by omega) (by omega)
      have vR : VV (.tuple (R.map pF)) := vvt aR (by rw [List.length_map]; omega)
      refine ⟨vR, ?_⟩
      rw [jp_none X]
      dsimp only
      exact law_10 X (by omega) p1 q1 fun e h1 h2 => hnx _ ⟨h1, h2⟩
    · rw [if_neg c]
      exact hnx _ ⟨⟨_, rfl, rfl⟩, rfl⟩
  · obtain ⟨⟨r, rfl, hr⟩, h2⟩ := hE
    obtain ⟨a2, r2, rfl, hr2⟩ := len_succ hr; obtain ⟨a3, r3, rfl, hr3⟩ := len_succ hr2; obtain ⟨a4, r4, rfl, hr4⟩ := len_succ hr3; obtain ⟨a5, r5, rfl, hr5⟩ := len_succ hr4; obtain ⟨a6, r6, rfl, hr6⟩ := len_succ hr5; obtain ⟨a7, r7, rfl, hr7⟩ := len_succ hr6; obtain ⟨a8, r8, rfl, hr8⟩ := len_succ hr7; obtain ⟨a9, r9, rfl, hr9⟩ := len_succ hr8; obtain ⟨a10, r10, rfl, hr10⟩ := len_succ hr9; obtain ⟨a11, r11, rfl, hr11⟩ := len_succ hr10; obtain ⟨a12, r12, rfl, hr12⟩ := len_succ hr11; obtain ⟨a13, r13, rfl, hr13⟩ := len_succ hr12; obtain ⟨a14, r14, rfl, hr14⟩ := len_succ hr13; obtain rfl := len_zero hr14
    cases h2
    unfold r_law_15
    walk_at "law0"
    have v : VV (.tuple [.tuple [.int 1, .int 1], .tuple [.int 2, .int 3]]) := vvt (.cons (pv2 (by decide) (by decide)) (.cons (pv2 (by decide) (by decide)) .nil)) (by decide)
    refine ⟨v, ?_⟩
    rw [show jp (2, 3) (.tuple [.tuple [.int 1, .int 1], .tuple [.int 2, .int 3]]) = .tuple [.str "son", .int 1] from rfl]
    dsimp only
    refine ⟨by decide +kernel, by decide +kernel, ?_⟩
    rw [SeqAt.eqv_refl _ (by decide +kernel)]
    exact hP
theorem law_true (ns : List Int) (h : ns.length ≤ 63) : S_law [scrD ns] fun d => d = .bool true := ⟨ns, rfl, h, rfl⟩
end LW
set_option Elab.async false
set_option linter.all false
set_option maxRecDepth 100000
set_option maxHeartbeats 4000000
namespace LW
open PySem PySem.Spec L2 MM
def topS (i : Nat) : Stmt := PySem.Challenge.pw_mediantrows_k30_place_papers_judged.main.body.getD i (.Pass ⟨0, 0, 0, 0⟩)
abbrev s_tree_sons : Stmt := topS 2
abbrev N_tree_sons : List Str := ["x", "p", "q"]
theorem sc_tree_sons : FnScope N_tree_sons ["x"] (defScope s_tree_sons) := ⟨rfl, rfl, rfl, by decide +kernel, rfl, by decide +kernel, by decide +kernel⟩
abbrev s_tree_father : Stmt := topS 3
abbrev N_tree_father : List Str := ["x", "p", "q"]
theorem sc_tree_father : FnScope N_tree_father ["x"] (defScope s_tree_father) := ⟨rfl, rfl, rfl, by decide +kernel, rfl, by decide +kernel, by decide +kernel⟩
abbrev s_tree_way : Stmt := topS 4
abbrev N_tree_way : List Str := ["x", "found", "here"]
theorem sc_tree_way : FnScope N_tree_way ["x"] (defScope s_tree_way) := ⟨rfl, rfl, rfl, by decide +kernel, rfl, by decide +kernel, by decide +kernel⟩
abbrev s_is_fraction_above : Stmt := topS 5
abbrev N_is_fraction_above : List Str := ["value", "x"]
theorem sc_is_fraction_above : FnScope N_is_fraction_above ["value"] (defScope s_is_fraction_above) := ⟨rfl, rfl, rfl, by decide +kernel, rfl, by decide +kernel, by decide +kernel⟩
abbrev s_judge_place : Stmt := topS 6
abbrev N_judge_place : List Str := ["x", "value", "i", "one"]
theorem sc_judge_place : FnScope N_judge_place ["x", "value"] (defScope s_judge_place) := ⟨rfl, rfl, rfl, by decide +kernel, rfl, by decide +kernel, by decide +kernel⟩
abbrev s_law_open_cells : Stmt := topS 8
abbrev N_law_open_cells : List Str := ["script", "stirred", "cell", "cells"]
theorem sc_law_open_cells : FnScope N_law_open_cells ["script"] (defScope s_law_open_cells) := ⟨rfl, rfl, rfl, by decide +kernel, rfl, by decide +kernel, by decide +kernel⟩
abbrev s_law_pick : Stmt := topS 9
abbrev N_law_pick : List Str := ["source", "most", "cells", "others", "lap", "stirred"]
theorem sc_law_pick : FnScope N_law_pick ["source", "most"] (defScope s_law_pick) := ⟨rfl, rfl, rfl, by decide +kernel, rfl, by decide +kernel, by decide +kernel⟩
abbrev s_law_of : Stmt := topS 10
abbrev N_law_of : List Str := ["source", "some"]
theorem sc_law_of : FnScope N_law_of ["source", "some"] (defScope s_law_of) := ⟨rfl, rfl, rfl, by decide +kernel, rfl, by decide +kernel, by decide +kernel⟩
abbrev s_law_is_int : Stmt := topS 11
abbrev N_law_is_int : List Str := ["value"]
theorem sc_law_is_int : FnScope N_law_is_int ["value"] (defScope s_law_is_int) := ⟨rfl, rfl, rfl, by decide +kernel, rfl, by decide +kernel, by decide +kernel⟩
abbrev s_law_bent : Stmt := topS 12
abbrev N_law_bent : List Str := ["source", "value", "odd", "k", "way"]
theorem sc_law_bent : FnScope N_law_bent ["source", "value", "odd"] (defScope s_law_bent) := ⟨rfl, rfl, rfl, by decide +kernel, rfl, by decide +kernel, by decide +kernel⟩
abbrev s_law_steps : Stmt := topS 13
abbrev N_law_steps : List Str := ["sort", "a", "b", "found", "k", "r", "e"]
theorem sc_law_steps : FnScope N_law_steps ["sort", "a", "b"] (defScope s_law_steps) := ⟨rfl, rfl, rfl, by decide +kernel, rfl, by decide +kernel, by decide +kernel⟩
abbrev s_law_chain : Stmt := topS 14
abbrev N_law_chain : List Str := ["a", "b", "step"]
theorem sc_law_chain : FnScope N_law_chain ["a", "b"] (defScope s_law_chain) := ⟨rfl, rfl, rfl, by decide +kernel, rfl, by decide +kernel, by decide +kernel⟩
abbrev s_law_common : Stmt := topS 15
abbrev N_law_common : List Str := ["a", "b"]
theorem sc_law_common : FnScope N_law_common ["a", "b"] (defScope s_law_common) := ⟨rfl, rfl, rfl, by decide +kernel, rfl, by decide +kernel, by decide +kernel⟩
abbrev s_law_fraction : Stmt := topS 16
abbrev N_law_fraction : List Str := ["source", "way", "p", "q", "turn", "by"]
theorem sc_law_fraction : FnScope N_law_fraction ["source"] (defScope s_law_fraction) := ⟨rfl, rfl, rfl, by decide +kernel, rfl, by decide +kernel, by decide +kernel⟩
abbrev s_law_is_fraction : Stmt := topS 17
abbrev N_law_is_fraction : List Str := ["value", "x"]
theorem sc_law_is_fraction : FnScope N_law_is_fraction ["value"] (defScope s_law_is_fraction) := ⟨rfl, rfl, rfl, by decide +kernel, rfl, by decide +kernel, by decide +kernel⟩
abbrev s_law_fault : Stmt := topS 18
abbrev N_law_fault : List Str := ["x", "value", "i", "p", "q", "one"]
theorem sc_law_fault : FnScope N_law_fault ["x", "value"] (defScope s_law_fault) := ⟨rfl, rfl, rfl, by decide +kernel, rfl, by decide +kernel, by decide +kernel⟩
abbrev s_law : Stmt := topS 19
abbrev N_law : List Str := ["script", "source", "odd", "lap", "x", "told", "i", "other", "some", "p", "q", "value", "held", "due", "turn"]
theorem sc_law : FnScope N_law ["script"] (defScope s_law) := ⟨rfl, rfl, rfl, by decide +kernel, rfl, by decide +kernel, by decide +kernel⟩
section
variable {P : Program} {w : World} {K : PySem.W.Frag} {mg : Str → Option Value} {base : Heap}
theorem ok_tree_sons (D : DefAt K mg "tree_sons" s_tree_sons ["x"]) : Cal P w K mg base "tree_sons" 1 ["x"] S_tree_sons :=
  (cal_g D sc_tree_sons (fun f cdv A outer s H B m => (mss_cons (ms_asg (mv 0) (mg_tup (n := 2) m.calm (mg_cons (mg_name m.nd 1) (mg_cons (mg_name m.nd 2) mg_nil)))) (mss_one (ms_ret (mtup (ma_cons (mtup (ma_cons (mv 1) (ma_cons (mop om_add (mw 1) (mw 2)) ma_nil))) (ma_cons (mtup (ma_cons (mop om_add (mw 1) (mw 2)) (ma_cons (mv 2) ma_nil))) ma_nil)))))))).imp S_tree_sons_ok
theorem ok_tree_father (D : DefAt K mg "tree_father" s_tree_father ["x"]) : Cal P w K mg base "tree_father" 1 ["x"] S_tree_father :=
  (cal_g D sc_tree_father (fun f cdv A outer s H B m => (mss_cons (ms_asg (mv 0) (mg_tup (n := 2) m.calm (mg_cons (mg_name m.nd 1) (mg_cons (mg_name m.nd 2) mg_nil)))) (mss_cons (ms_if (mtcmp (om_eq m) (mw 1) (mw 2)) (mss_one (ms_ret mnon)) mss_nil) (mss_one (ms_ret (mif (mtcmp om_lt (mw 1) (mw 2)) (mtup (ma_cons (mv 1) (ma_cons (mop om_sub (mw 2) (mw 1)) ma_nil))) (mtup (ma_cons (mop om_sub (mw 1) (mw 2)) (ma_cons (mv 2) ma_nil)))))))))).imp S_tree_father_ok
theorem ok_tree_way (D : DefAt K mg "tree_way" s_tree_way ["x"]) (c_tree_father : Cal P w K mg base "tree_father" 1 ["x"] S_tree_father) (z_tuple : mg "tuple" = none) : Cal P w K mg base "tree_way" 2 ["x"] S_tree_way :=
  (cal_g D sc_tree_way (fun f cdv A outer s H B m => (mss_cons (ms_parO (k := 0) (i := 1) (j := 2) m.calm m.nd (maf_here (mlst ma_nil) (ma_cons (mv 0) ma_nil))) (mss_cons (ms_while PassesOwn.never (mtcmp om_isnot (mw 2) (weak mnon)) (mss_cons (ms_app 1 (pv 1) (mv 2)) (mss_one (ms_set m.nd 2 (mcl c_tree_father m (ma_cons (mv 2) ma_nil)))))) (mss_one (ms_ret (mcT cm_tuple z_tuple (maw_cons (weak (mrevA (mw 1))) maw_nil) rfl bb_tuple))))))).imp S_tree_way_ok
theorem ok_is_fraction_above (D : DefAt K mg "is_fraction_above" s_is_fraction_above ["value"]) (z_all : mg "all" = none) (z_bool : mg "bool" = none) (z_gcd : mg "gcd" = some (.builtin "math.gcd")) (z_int : mg "int" = none) (z_isinstance : mg "isinstance" = none) (z_len : mg "len" = none) (z_tuple : mg "tuple" = none) : Cal P w K mg base "is_fraction_above" 1 ["value"] S_is_fraction_above :=
  (cal_g D sc_is_fraction_above (fun f cdv A outer s H B m => (mss_cons (ms_if (PW.pt (mt_or (mt_not (mtv (misi ik_tup z_isinstance z_tuple bb_tuple (mw 0)))) (mt_or1 (mtcmp (om_ne m) (weak (mcB cm_len z_len (maw_cons (mw 0) maw_nil) rfl bb_len)) (weak mint))))) (mss_one (ms_ret mbl)) mss_nil) (mss_cons (ms_if (mt_not (mtv (mcB (cm_all m) z_all (maw_cons (thawW (mlc [("x", 1)] m (mi_seqw (mw 0)) (blkOk_by (N := N_is_fraction_above) (sc := (defScope s_is_fraction_above)) (by decide +kernel)) (fun _ _ _ _ _ => (mg_name (m).blk.nd 1)) (fun _ _ _ _ _ => mts_nil) (fun _ _ _ _ _ => (mand (misi ik_int z_isinstance z_int bb_int (mw 1)) (mand (mnot (misi ik_bool z_isinstance z_bool bb_bool (mw 1))) (mand1 (mcmp om_gt (mw 1) (weak mint)))))))) maw_nil) rfl bb_all))) (mss_one (ms_ret mbl)) mss_nil) (mss_one (ms_ret (mcmp (om_eq m) (weak (mcG cm_gcd z_gcd (maw_cons (weak (mix (mw 0) (weak mint))) (maw_cons (weak (mix (mw 0) (weak mint))) maw_nil)))) (weak mint)))))))).imp S_is_fraction_above_ok
theorem ok_judge_place (D : DefAt K mg "judge_place" s_judge_place ["x", "value"]) (c_is_fraction_above : Cal P w K mg base "is_fraction_above" 1 ["value"] S_is_fraction_above) (c_tree_sons : Cal P w K mg base "tree_sons" 1 ["x"] S_tree_sons) (z_all : mg "all" = none) (z_isinstance : mg "isinstance" = none) (z_len : mg "len" = none) (z_range : mg "range" = none) (z_tuple : mg "tuple" = none) : Cal P w K mg base "judge_place" 2 ["x", "value"] S_judge_place :=
  (cal_g D sc_judge_place (fun f cdv A outer s H B m => (mss_cons (ms_if (PW.pt (mt_or (mt_not (mtv (misi ik_tup z_isinstance z_tuple bb_tuple (mw 1)))) (mt_or (mtcmp (om_eqZ m) (mw 1) (weak (mtup ma_nil))) (mt_or1 (mt_not (mtv (mcB (cm_all m) z_all (maw_cons (thawW (mlc [("one", 3)] m (mi_seqw (mw 1)) (blkOk_by (N := N_judge_place) (sc := (defScope s_judge_place)) (by decide +kernel)) (fun _ _ _ _ _ => (mg_name (m).blk.nd 3)) (fun _ _ _ _ _ => mts_nil) (fun _ _ _ _ _ => (mcl c_is_fraction_above (m).blk (ma_cons (mv 3) ma_nil))))) maw_nil) rfl bb_all))))))) (mss_one (ms_ret (mtup (ma_cons mstr ma_nil)))) mss_nil) (mss_cons (ms_if (mtcmp (om_neZ m) (weak (mix (mw 1) (weak mint))) (weak (mtup (ma_cons mint (ma_cons mint ma_nil))))) (mss_one (ms_ret (mtup (ma_cons mstr ma_nil)))) mss_nil) (mss_cons (ms_for PassesOwn.never m.calm (mi_range2 z_range (maw_cons (weak mint) (maw_cons (weak (mcB cm_len z_len (maw_cons (mw 1) maw_nil) rfl bb_len)) maw_nil))) (mg_name m.nd 2) (fun _ => (mss_one (ms_if (mtcmp (om_notinX m) (weak (mix (mw 1) (mw 2))) (weak (mcl c_tree_sons m (ma_cons (mix (mw 1) (weak (mop om_sub (mw 2) (weak mint)))) ma_nil)))) (mss_one (ms_ret (mtup (ma_cons mstr (ma_cons (mv 2) ma_nil))))) mss_nil)))) (mss_one (ms_ret (mif (mtcmp (om_neZ m) (weak (mix (mw 1) (weak (mneg (weak mint))))) (mw 0)) (mtup (ma_cons mstr ma_nil)) mnon)))))))).imp S_judge_place_ok
theorem ok_law_open_cells (D : DefAt K mg "_law_open_cells" s_law_open_cells ["script"]) (z_abs : mg "abs" = none) (z_int : mg "int" = none) : Cal P w K mg base "_law_open_cells" 1 ["script"] S_law_open_cells :=
  Cal.imp (cal_raw (R := SOpen) D sc_law_open_cells (fun ds Pp h => by obtain ⟨_, rfl, _⟩ := h; rfl) (fun f cdv A outer s H W ds vs Pp Q m ok dms h hq => by
    have hu := hu_of m.room
    exact ⟨_, (pss_cons (ps_set (i := 1) sc_law_open_cells.nd rfl (.inl rfl) pe_int) (pss_cons (ps_for PassesOwn.never rfl (pi_list (pv 0)) (pg_name (i := 2) sc_law_open_cells.nd rfl (.inl rfl)) (pss_one (ps_set (i := 1) sc_law_open_cells.nd rfl (.inl rfl) (pe_op op_mod (pe_callTy call_int1 rfl z_int bb_int (pa_cons (pe_op op_add (pe_op op_add (pe_op op_mul (pv 1) pe_int) (pe_op op_mul (pv 2) pe_int)) pe_int) pa_nil)) pe_int)))) (pss_cons (ps_setLc (i := 3) (own := [("cell", 2)]) (g := gName 2) rfl sc_law_open_cells.nd rfl rfl (sw_true rfl rfl rfl (by decide +kernel)) (pi_list (pv 0)) (blkOk_by (N := N_law_open_cells) (sc := defScope s_law_open_cells) (by decide +kernel)) (fun _ _ _ _ _ => pg_name (i := 2) sc_law_open_cells.nd rfl (.inl rfl)) (fun _ _ _ _ _ => pts_nil) (fun _ _ _ _ _ => pe_callB call_abs rfl z_abs bb_abs (pa_cons (pv 2) pa_nil))) (pss_one (ps_ret (pe_disp (pps_cons pe_str (pe_revL (pv 3)) (pps_cons pe_str pe_int (pps_cons pe_str (pv 1) (pps_cons pe_str pe_int pps_nil)))) rfl rfl (fun z => by cases z) (by decide))))))), openA_reads ok dms h hq⟩)) SOp_ok
theorem ok_law_pick (D : DefAt K mg "_law_pick" s_law_pick ["source", "most"]) (z_len : mg "len" = none) (z_int : mg "int" = none) : Cal P w K mg base "_law_pick" 1 ["source", "most"] S_law_pick :=
  Cal.imp (cal_raw (R := SPick) D sc_law_pick (fun ds Pp h => by obtain ⟨_, rfl, _⟩ := h; rfl) (fun f cdv A outer s H W ds vs Pp Q m ok dms h hq => by
    have hu := hu_of m.room
    exact ⟨_, (pss_cons (ps_if (pt_cmpR op_lt (pv 1) pe_int (nomark _)) (pss_one (ps_ret pe_int)) pss_nil) (pss_cons (ps_set (i := 2) sc_law_pick.nd rfl (.inl rfl) (pe_dget hu (pv 0) pe_str (fun _ _ => rfl))) (pss_cons (ps_while PassesOwn.never (PW.pt (pw_and (pt_cmpR op_lt (pe_dget hu (pv 0) pe_str (fun _ _ => rfl)) pe_int (nomark _)) (pw_and1 (pt_cmpR op_gt (pe_callB call_len_seq rfl z_len PySem.boot_len (pa_cons (pv 2) pa_nil)) pe_int (nomark _))))) (pss_one (ps_dput hu (pv 0) pe_str (pe_bm0 PySem.F.plainAttrs_list PySem.F.slot_list_pop PySem.F.type_list_pop mt_pop (pv 2)) rfl))) (pss_cons (ps_set (i := 3) sc_law_pick.nd rfl (.inl rfl) (pe_dget hu (pv 0) pe_str (fun _ _ => rfl))) (pss_cons (ps_if (pt_cmpR op_gt (pv 3) pe_int (nomark _)) (pss_cons (ps_dput hu (pv 0) pe_str (pe_op op_fdivW (pv 3) (pv 1)) rfl) (pss_one (ps_ret (pe_op op_mod (pe_callTy call_int1 rfl z_int bb_int (pa_cons (pv 3) pa_nil)) (pv 1))))) pss_nil) (pss_cons (ps_dput hu (pv 0) pe_str (pe_op op_add (pe_dget hu (pv 0) pe_str (fun _ _ => rfl)) pe_int) rfl) (pss_cons (ps_set (i := 4) sc_law_pick.nd rfl (.inl rfl) (pe_dget hu (pv 0) pe_str (fun _ _ => rfl))) (pss_cons (ps_set (i := 5) sc_law_pick.nd rfl (.inl rfl) (pe_op op_mod (pe_callTy call_int1 rfl z_int bb_int (pa_cons (pe_op op_add (pe_dget hu (pv 0) pe_str (fun _ _ => rfl)) (pe_op op_mul (pv 4) pe_int)) pa_nil)) pe_int)) (pss_cons (ps_set (i := 5) sc_law_pick.nd rfl (.inl rfl) (pe_op op_mod (pe_callTy call_int1 rfl z_int bb_int (pa_cons (pe_op op_add (pe_op op_mul (pv 5) (pv 5)) (pe_op op_mul (pv 4) pe_int)) pa_nil)) pe_int)) (pss_one (ps_ret (pe_op op_mod (pe_callTy call_int1 rfl z_int bb_int (pa_cons (pe_op op_fdivW (pv 5) pe_int) pa_nil)) (pv 1))))))))))))), pickA_reads ok dms h hq⟩)) SPk_ok
theorem ok_law_of (D : DefAt K mg "_law_of" s_law_of ["source", "some"]) (c_law_pick : Cal P w K mg base "_law_pick" 1 ["source", "most"] S_law_pick) (z_len : mg "len" = none) : Cal P w K mg base "_law_of" 2 ["source", "some"] S_law_of :=
  (cal_g D sc_law_of (fun f cdv A outer s H B m => (mss_one (ms_ret (mix (mw 1) (weak (mcl c_law_pick m (ma_cons (mv 0) (ma_cons (mcB cm_len z_len (maw_cons (mw 1) maw_nil) rfl bb_len) ma_nil))))))))).imp S_law_of_ok
theorem ok_law_is_int (D : DefAt K mg "_law_is_int" s_law_is_int ["value"]) (z_bool : mg "bool" = none) (z_int : mg "int" = none) (z_isinstance : mg "isinstance" = none) : Cal P w K mg base "_law_is_int" 1 ["value"] S_law_is_int :=
  (cal_g D sc_law_is_int (fun f cdv A outer s H B m => (mss_one (ms_ret (mand (misi ik_int z_isinstance z_int bb_int (mw 0)) (mand1 (mnot (misi ik_bool z_isinstance z_bool bb_bool (mw 0))))))))).imp S_law_is_int_ok
theorem ok_law_bent_0 (D : DefAt K mg "_law_bent" s_law_bent ["source", "value", "odd"]) : Cal P w K mg base "_law_bent" 3 ["source", "value", "odd"] (S_law_bent 0) :=
  cal_raw D sc_law_bent (fun ds Pp h => (S_law_bent_no ds Pp h).elim) (fun f cdv A outer s H W ds vs Pp Q m ok dms h hq => (S_law_bent_no ds Pp h).elim)
theorem ok_law_bent_1 (D : DefAt K mg "_law_bent" s_law_bent ["source", "value", "odd"]) (c_law_pick : Cal P w K mg base "_law_pick" 1 ["source", "most"] S_law_pick) (c_law_is_int : Cal P w K mg base "_law_is_int" 1 ["value"] S_law_is_int) (c_law_of : Cal P w K mg base "_law_of" 2 ["source", "some"] S_law_of) (z_isinstance : mg "isinstance" = none) (z_len : mg "len" = none) (z_tuple : mg "tuple" = none) (c_law_bent : Cal P w K mg base "_law_bent" 3 ["source", "value", "odd"] (S_law_bent 0)) : Cal P w K mg base "_law_bent" 4 ["source", "value", "odd"] (S_law_bent 1) :=
  (cal_g D sc_law_bent (fun f cdv A outer s H B m => (mss_cons (ms_if (PW.pt (mt_and (mtv (mcl c_law_is_int m (ma_cons (mv 1) ma_nil))) (mt_and1 (mtcmp om_gt (weak (mcl c_law_pick m (ma_cons (mv 0) (ma_cons mint ma_nil)))) (weak mint))))) (mss_one (ms_ret (mop om_add (mw 1) (weak (mcl c_law_of m (ma_cons (mv 0) (ma_cons (thaw (mlst (ma_cons mint (ma_cons (mneg (weak mint)) (ma_cons mint ma_nil))))) ma_nil))))))) mss_nil) (mss_cons (ms_if (PW.pt (mt_or (mt_not (mtv (misi ik_tup z_isinstance z_tuple bb_tuple (mw 1)))) (mt_or (mtcmp (om_eqZ m) (mw 1) (weak (mtup ma_nil))) (mt_or1 (mtcmp (om_eqZ m) (weak (mcl c_law_pick m (ma_cons (mv 0) (ma_cons mint ma_nil)))) (weak mint)))))) (mss_one (ms_ret (mcl c_law_of m (ma_cons (mv 0) (ma_cons (mv 2) ma_nil))))) mss_nil) (mss_cons (ms_par (i := 3) (j := 4) m.calm m.nd (ma_cons (mcl c_law_pick m (ma_cons (mv 0) (ma_cons (mcB cm_len z_len (maw_cons (mw 1) maw_nil) rfl bb_len) ma_nil))) (ma_cons (mcl c_law_pick m (ma_cons (mv 0) (ma_cons mint ma_nil))) ma_nil))) (mss_cons (ms_if (mtcmp om_lt (mw 4) (weak mint)) (mss_one (ms_ret (mop om_add (weak (mop om_add (weak (msl (mw 1) mo_none (mo_some (mw 3)))) (weak (mtup (ma_cons (mcl c_law_bent m (ma_cons (mv 0) (ma_cons (mix (mw 1) (mw 3)) (ma_cons (mv 2) ma_nil)))) ma_nil))))) (weak (msl (mw 1) (mo_some (weak (mop om_add (mw 3) (weak mint)))) mo_none))))) mss_nil) (mss_one (ms_ret (mix (thawW (mlst (ma_cons (mop om_add (weak (msl (mw 1) mo_none (mo_some (mw 3)))) (weak (msl (mw 1) (mo_some (weak (mop om_add (mw 3) (weak mint)))) mo_none))) (ma_cons (mop om_add (weak (msl (mw 1) mo_none (mo_some (weak (mop om_add (mw 3) (weak mint)))))) (weak (msl (mw 1) (mo_some (mw 3)) mo_none))) (ma_cons (mop om_add (weak (msl (mw 1) (mo_some (mw 3)) mo_none)) (weak (msl (mw 1) mo_none (mo_some (mw 3))))) ma_nil))))) (weak (mop om_sub (mw 4) (weak mint)))))))))))).imp (S_law_bent_ok 0)
theorem ok_law_bent_2 (D : DefAt K mg "_law_bent" s_law_bent ["source", "value", "odd"]) (c_law_pick : Cal P w K mg base "_law_pick" 1 ["source", "most"] S_law_pick) (c_law_is_int : Cal P w K mg base "_law_is_int" 1 ["value"] S_law_is_int) (c_law_of : Cal P w K mg base "_law_of" 2 ["source", "some"] S_law_of) (z_isinstance : mg "isinstance" = none) (z_len : mg "len" = none) (z_tuple : mg "tuple" = none) (c_law_bent : Cal P w K mg base "_law_bent" 4 ["source", "value", "odd"] (S_law_bent 1)) : Cal P w K mg base "_law_bent" 5 ["source", "value", "odd"] (S_law_bent 2) :=
  (cal_g D sc_law_bent (fun f cdv A outer s H B m => (mss_cons (ms_if (PW.pt (mt_and (mtv (mcl c_law_is_int m (ma_cons (mv 1) ma_nil))) (mt_and1 (mtcmp om_gt (weak (mcl c_law_pick m (ma_cons (mv 0) (ma_cons mint ma_nil)))) (weak mint))))) (mss_one (ms_ret (mop om_add (mw 1) (weak (mcl c_law_of m (ma_cons (mv 0) (ma_cons (thaw (mlst (ma_cons mint (ma_cons (mneg (weak mint)) (ma_cons mint ma_nil))))) ma_nil))))))) mss_nil) (mss_cons (ms_if (PW.pt (mt_or (mt_not (mtv (misi ik_tup z_isinstance z_tuple bb_tuple (mw 1)))) (mt_or (mtcmp (om_eqZ m) (mw 1) (weak (mtup ma_nil))) (mt_or1 (mtcmp (om_eqZ m) (weak (mcl c_law_pick m (ma_cons (mv 0) (ma_cons mint ma_nil)))) (weak mint)))))) (mss_one (ms_ret (mcl c_law_of m (ma_cons (mv 0) (ma_cons (mv 2) ma_nil))))) mss_nil) (mss_cons (ms_par (i := 3) (j := 4) m.calm m.nd (ma_cons (mcl c_law_pick m (ma_cons (mv 0) (ma_cons (mcB cm_len z_len (maw_cons (mw 1) maw_nil) rfl bb_len) ma_nil))) (ma_cons (mcl c_law_pick m (ma_cons (mv 0) (ma_cons mint ma_nil))) ma_nil))) (mss_cons (ms_if (mtcmp om_lt (mw 4) (weak mint)) (mss_one (ms_ret (mop om_add (weak (mop om_add (weak (msl (mw 1) mo_none (mo_some (mw 3)))) (weak (mtup (ma_cons (mcl c_law_bent m (ma_cons (mv 0) (ma_cons (mix (mw 1) (mw 3)) (ma_cons (mv 2) ma_nil)))) ma_nil))))) (weak (msl (mw 1) (mo_some (weak (mop om_add (mw 3) (weak mint)))) mo_none))))) mss_nil) (mss_one (ms_ret (mix (thawW (mlst (ma_cons (mop om_add (weak (msl (mw 1) mo_none (mo_some (mw 3)))) (weak (msl (mw 1) (mo_some (weak (mop om_add (mw 3) (weak mint)))) mo_none))) (ma_cons (mop om_add (weak (msl (mw 1) mo_none (mo_some (weak (mop om_add (mw 3) (weak mint)))))) (weak (msl (mw 1) (mo_some (mw 3)) mo_none))) (ma_cons (mop om_add (weak (msl (mw 1) (mo_some (mw 3)) mo_none)) (weak (msl (mw 1) mo_none (mo_some (mw 3))))) ma_nil))))) (weak (mop om_sub (mw 4) (weak mint)))))))))))).imp (S_law_bent_ok 1)
theorem ok_law_bent_3 (D : DefAt K mg "_law_bent" s_law_bent ["source", "value", "odd"]) (c_law_pick : Cal P w K mg base "_law_pick" 1 ["source", "most"] S_law_pick) (c_law_is_int : Cal P w K mg base "_law_is_int" 1 ["value"] S_law_is_int) (c_law_of : Cal P w K mg base "_law_of" 2 ["source", "some"] S_law_of) (z_isinstance : mg "isinstance" = none) (z_len : mg "len" = none) (z_tuple : mg "tuple" = none) (c_law_bent : Cal P w K mg base "_law_bent" 5 ["source", "value", "odd"] (S_law_bent 2)) : Cal P w K mg base "_law_bent" 6 ["source", "value", "odd"] (S_law_bent 3) :=
  (cal_g D sc_law_bent (fun f cdv A outer s H B m => (mss_cons (ms_if (PW.pt (mt_and (mtv (mcl c_law_is_int m (ma_cons (mv 1) ma_nil))) (mt_and1 (mtcmp om_gt (weak (mcl c_law_pick m (ma_cons (mv 0) (ma_cons mint ma_nil)))) (weak mint))))) (mss_one (ms_ret (mop om_add (mw 1) (weak (mcl c_law_of m (ma_cons (mv 0) (ma_cons (thaw (mlst (ma_cons mint (ma_cons (mneg (weak mint)) (ma_cons mint ma_nil))))) ma_nil))))))) mss_nil) (mss_cons (ms_if (PW.pt (mt_or (mt_not (mtv (misi ik_tup z_isinstance z_tuple bb_tuple (mw 1)))) (mt_or (mtcmp (om_eqZ m) (mw 1) (weak (mtup ma_nil))) (mt_or1 (mtcmp (om_eqZ m) (weak (mcl c_law_pick m (ma_cons (mv 0) (ma_cons mint ma_nil)))) (weak mint)))))) (mss_one (ms_ret (mcl c_law_of m (ma_cons (mv 0) (ma_cons (mv 2) ma_nil))))) mss_nil) (mss_cons (ms_par (i := 3) (j := 4) m.calm m.nd (ma_cons (mcl c_law_pick m (ma_cons (mv 0) (ma_cons (mcB cm_len z_len (maw_cons (mw 1) maw_nil) rfl bb_len) ma_nil))) (ma_cons (mcl c_law_pick m (ma_cons (mv 0) (ma_cons mint ma_nil))) ma_nil))) (mss_cons (ms_if (mtcmp om_lt (mw 4) (weak mint)) (mss_one (ms_ret (mop om_add (weak (mop om_add (weak (msl (mw 1) mo_none (mo_some (mw 3)))) (weak (mtup (ma_cons (mcl c_law_bent m (ma_cons (mv 0) (ma_cons (mix (mw 1) (mw 3)) (ma_cons (mv 2) ma_nil)))) ma_nil))))) (weak (msl (mw 1) (mo_some (weak (mop om_add (mw 3) (weak mint)))) mo_none))))) mss_nil) (mss_one (ms_ret (mix (thawW (mlst (ma_cons (mop om_add (weak (msl (mw 1) mo_none (mo_some (mw 3)))) (weak (msl (mw 1) (mo_some (weak (mop om_add (mw 3) (weak mint)))) mo_none))) (ma_cons (mop om_add (weak (msl (mw 1) mo_none (mo_some (weak (mop om_add (mw 3) (weak mint)))))) (weak (msl (mw 1) (mo_some (mw 3)) mo_none))) (ma_cons (mop om_add (weak (msl (mw 1) (mo_some (mw 3)) mo_none)) (weak (msl (mw 1) mo_none (mo_some (mw 3))))) ma_nil))))) (weak (mop om_sub (mw 4) (weak mint)))))))))))).imp (S_law_bent_ok 2)
theorem ok_law_steps (D : DefAt K mg "_law_steps" s_law_steps ["sort", "a", "b"]) (z_int : mg "int" = none) (z_tuple : mg "tuple" = none) : Cal P w K mg base "_law_steps" 1 ["sort", "a", "b"] S_law_steps :=
  (cal_g D sc_law_steps (fun f cdv A outer s H B m => (mss_cons (ms_setO m.nd 3 (mlst ma_nil)) (mss_cons (ms_while PassesOwn.never (mtcmp om_gt (mw 2) (weak mint)) (mss_cons (ms_par3 (i := 4) (j := 5) (l := 6) m.calm m.nd (ma_cons (mop om_div (mw 1) (mw 2)) (ma_cons (mop om_mod (weak (mcT cm_int z_int (maw_cons (mw 1) maw_nil) rfl bb_int)) (mw 2)) (ma_cons mint ma_nil)))) (mss_cons (ms_if (PW.pt (mt_and (mtcmp om_gt (mw 5) (weak mint)) (mt_and1 (PW.pt (mt_or (mtcmp (om_eq m) (mw 0) (weak mstr)) (mt_or1 (PW.pt (mt_and (mtcmp (om_eq m) (mw 0) (weak mstr)) (mt_and1 (mtcmp om_gt (weak (mop om_mul (weak mint) (mw 5))) (mw 2))))))))))) (mss_one (ms_par3 (i := 4) (j := 5) (l := 6) m.calm m.nd (ma_cons (mop om_add (mw 4) (weak mint)) (ma_cons (mop om_sub (mw 2) (mw 5)) (ma_cons (mneg (weak mint)) ma_nil))))) mss_nil) (mss_cons (ms_app 3 (pv 3) (mif (mtcmp (om_eq m) (mw 0) (weak mstr)) (mtup (ma_cons (mv 4) (ma_cons (mv 5) (ma_cons (mv 6) ma_nil)))) (mtup (ma_cons (mv 4) (ma_cons (mv 5) ma_nil))))) (mss_one (ms_par (i := 1) (j := 2) m.calm m.nd (ma_cons (mv 2) (ma_cons (mv 5) ma_nil)))))))) (mss_one (ms_ret (mcT cm_tuple z_tuple (maw_cons (mw 3) maw_nil) rfl bb_tuple))))))).imp S_law_steps_ok
theorem ok_law_chain (D : DefAt K mg "_law_chain" s_law_chain ["a", "b"]) (c_law_steps : Cal P w K mg base "_law_steps" 1 ["sort", "a", "b"] S_law_steps) (z_tuple : mg "tuple" = none) : Cal P w K mg base "_law_chain" 2 ["a", "b"] S_law_chain :=
  (cal_g D sc_law_chain (fun f cdv A outer s H B m => (mss_one (ms_ret (mcT cm_tuple z_tuple (maw_cons (thawW (mlc [("step", 2)] m (mi_seqw (weak (mcl c_law_steps m (ma_cons mstr (ma_cons (mv 0) (ma_cons (mv 1) ma_nil)))))) (blkOk_by (N := N_law_chain) (sc := (defScope s_law_chain)) (by decide +kernel)) (fun _ _ _ _ _ => (mg_name (m).blk.nd 2)) (fun _ _ _ _ _ => mts_nil) (fun _ _ _ _ _ => (mix (mw 2) (weak mint))))) maw_nil) rfl bb_tuple))))).imp S_law_chain_ok
theorem ok_law_common (D : DefAt K mg "_law_common" s_law_common ["a", "b"]) (z_abs : mg "abs" = none) (z_int : mg "int" = none) : Cal P w K mg base "_law_common" 1 ["a", "b"] S_law_common :=
  (cal_g D sc_law_common (fun f cdv A outer s H B m => (mss_cons (ms_par (i := 0) (j := 1) m.calm m.nd (ma_cons (mcB cm_abs z_abs (maw_cons (mw 0) maw_nil) rfl bb_abs) (ma_cons (mcB cm_abs z_abs (maw_cons (mw 1) maw_nil) rfl bb_abs) ma_nil))) (mss_cons (ms_while PassesOwn.never (mtcmp om_gt (mw 1) (weak mint)) (mss_one (ms_par (i := 0) (j := 1) m.calm m.nd (ma_cons (mv 1) (ma_cons (mop om_mod (weak (mcT cm_int z_int (maw_cons (mw 0) maw_nil) rfl bb_int)) (mw 1)) ma_nil))))) (mss_one (ms_ret (mv 0))))))).imp S_law_common_ok
theorem ok_law_fraction (D : DefAt K mg "_law_fraction" s_law_fraction ["source"]) (c_law_pick : Cal P w K mg base "_law_pick" 1 ["source", "most"] S_law_pick) (c_law_common : Cal P w K mg base "_law_common" 1 ["a", "b"] S_law_common) (z_range : mg "range" = none) : Cal P w K mg base "_law_fraction" 2 ["source"] S_law_fraction :=
  (cal_g D sc_law_fraction (fun f cdv A outer s H B m => (mss_cons (ms_set m.nd 1 (mcl c_law_pick m (ma_cons (mv 0) (ma_cons mint ma_nil)))) (mss_cons (ms_if (mtcmp (om_eq m) (mw 1) (weak mint)) (mss_one (ms_par (i := 2) (j := 3) m.calm m.nd (ma_cons (mop om_add (weak mint) (weak (mcl c_law_pick m (ma_cons (mv 0) (ma_cons mint ma_nil))))) (ma_cons (mop om_add (weak mint) (weak (mcl c_law_pick m (ma_cons (mv 0) (ma_cons mint ma_nil))))) ma_nil)))) (mss_one (ms_if (mtcmp (om_eq m) (mw 1) (weak mint)) (mss_one (ms_par (i := 2) (j := 3) m.calm m.nd (ma_cons (mop om_add (weak mint) (weak (mcl c_law_pick m (ma_cons (mv 0) (ma_cons mint ma_nil))))) (ma_cons (mop om_add (weak mint) (weak (mcl c_law_pick m (ma_cons (mv 0) (ma_cons mint ma_nil))))) ma_nil)))) (mss_cons (ms_asg (mtup (ma_cons mint (ma_cons mint ma_nil))) (mg_tup (n := 2) m.calm (mg_cons (mg_name m.nd 2) (mg_cons (mg_name m.nd 3) mg_nil)))) (mss_one (ms_for PassesOwn.never m.calm (mi_range1 z_range (maw_cons (weak (mcl c_law_pick m (ma_cons (mv 0) (ma_cons mint ma_nil)))) maw_nil)) (mg_name m.nd 4) (fun _ => (mss_one (ms_asg (mif (mtcmp (om_eq m) (weak (mcl c_law_pick m (ma_cons (mv 0) (ma_cons mint ma_nil)))) (weak mint)) (mtup (ma_cons (mop om_add (mw 2) (mw 3)) (ma_cons (mv 3) ma_nil))) (mtup (ma_cons (mv 2) (ma_cons (mop om_add (mw 2) (mw 3)) ma_nil)))) (mg_tup (n := 2) m.calm (mg_cons (mg_name m.nd 2) (mg_cons (mg_name m.nd 3) mg_nil)))))))))))) (mss_cons (ms_set m.nd 5 (mcl c_law_common m (ma_cons (mv 2) (ma_cons (mv 3) ma_nil)))) (mss_one (ms_ret (mtup (ma_cons (mop om_div (mw 2) (mw 5)) (ma_cons (mop om_div (mw 3) (mw 5)) ma_nil)))))))))).imp S_law_fraction_ok
theorem ok_law_is_fraction (D : DefAt K mg "_law_is_fraction" s_law_is_fraction ["value"]) (c_law_is_int : Cal P w K mg base "_law_is_int" 1 ["value"] S_law_is_int) (c_law_common : Cal P w K mg base "_law_common" 1 ["a", "b"] S_law_common) (z_isinstance : mg "isinstance" = none) (z_len : mg "len" = none) (z_tuple : mg "tuple" = none) : Cal P w K mg base "_law_is_fraction" 2 ["value"] S_law_is_fraction :=
  (cal_g D sc_law_is_fraction (fun f cdv A outer s H B m => (mss_cons (ms_if (PW.pt (mt_or (mt_not (mtv (misi ik_tup z_isinstance z_tuple bb_tuple (mw 0)))) (mt_or (mtcmp (om_neZ m) (weak (mcB cm_len z_len (maw_cons (mw 0) maw_nil) rfl bb_len)) (weak mint)) (mt_or1 (mtcmp (om_neZ m) (thawW (mlc [("x", 1)] m (mi_seqw (mw 0)) (blkOk_by (N := N_law_is_fraction) (sc := (defScope s_law_is_fraction)) (by decide +kernel)) (fun _ _ _ _ _ => (mg_name (m).blk.nd 1)) (fun _ _ _ _ _ => (mts_one (PW.pt (mt_or (mt_not (mtv (mcl c_law_is_int (m).blk (ma_cons (mv 1) ma_nil)))) (mt_or1 (mtcmp om_lt (mw 1) (weak mint))))))) (fun _ _ _ _ _ => (mv 1)))) (thawW (mlst ma_nil))))))) (mss_one (ms_ret mbl)) mss_nil) (mss_one (ms_ret (mcmp (om_eqZ m) (weak (mcl c_law_common m (ma_cons (mix (mw 0) (weak mint)) (ma_cons (mix (mw 0) (weak mint)) ma_nil)))) (weak mint))))))).imp S_law_is_fraction_ok
theorem ok_law_fault (D : DefAt K mg "_law_fault" s_law_fault ["x", "value"]) (c_law_is_fraction : Cal P w K mg base "_law_is_fraction" 2 ["value"] S_law_is_fraction) (z_isinstance : mg "isinstance" = none) (z_len : mg "len" = none) (z_range : mg "range" = none) (z_tuple : mg "tuple" = none) : Cal P w K mg base "_law_fault" 3 ["x", "value"] S_law_fault :=
  (cal_g D sc_law_fault (fun f cdv A outer s H B m => (mss_cons (ms_if (PW.pt (mt_or (mt_not (mtv (misi ik_tup z_isinstance z_tuple bb_tuple (mw 1)))) (mt_or (mtcmp (om_eqZ m) (mw 1) (weak (mtup ma_nil))) (mt_or1 (mtcmp (om_neZ m) (thawW (mlc [("one", 5)] m (mi_seqw (mw 1)) (blkOk_by (N := N_law_fault) (sc := (defScope s_law_fault)) (by decide +kernel)) (fun _ _ _ _ _ => (mg_name (m).blk.nd 5)) (fun _ _ _ _ _ => (mts_one (mt_not (mtv (mcl c_law_is_fraction (m).blk (ma_cons (mv 5) ma_nil)))))) (fun _ _ _ _ _ => (mv 5)))) (thawW (mlst ma_nil))))))) (mss_one (ms_ret (mtup (ma_cons mstr ma_nil)))) mss_nil) (mss_cons (ms_if (mtcmp (om_neZ m) (weak (mix (mw 1) (weak mint))) (weak (mtup (ma_cons mint (ma_cons mint ma_nil))))) (mss_one (ms_ret (mtup (ma_cons mstr ma_nil)))) mss_nil) (mss_cons (ms_for PassesOwn.never m.calm (mi_range2 z_range (maw_cons (weak mint) (maw_cons (weak (mcB cm_len z_len (maw_cons (mw 1) maw_nil) rfl bb_len)) maw_nil))) (mg_name m.nd 2) (fun _ => (mss_cons (ms_asg (mix (mw 1) (weak (mop om_sub (mw 2) (weak mint)))) (mg_tup (n := 2) m.calm (mg_cons (mg_name m.nd 3) (mg_cons (mg_name m.nd 4) mg_nil)))) (mss_one (ms_if (mtcmp (om_notinX m) (weak (mix (mw 1) (mw 2))) (weak (mtup (ma_cons (mtup (ma_cons (mv 3) (ma_cons (mop om_add (mw 3) (mw 4)) ma_nil))) (ma_cons (mtup (ma_cons (mop om_add (mw 3) (mw 4)) (ma_cons (mv 4) ma_nil))) ma_nil))))) (mss_one (ms_ret (mtup (ma_cons mstr (ma_cons (mv 2) ma_nil))))) mss_nil))))) (mss_one (ms_ret (mif (mtcmp (om_neZ m) (weak (mix (mw 1) (weak (mneg (weak mint))))) (mw 0)) (mtup (ma_cons mstr ma_nil)) mnon)))))))).imp S_law_fault_ok
theorem ok_law {f : Addr} {fd : FuncData} (D : Fun K "law" "law" s_law f fd) (c_law_open_cells : Cal P w K mg base "_law_open_cells" 1 ["script"] S_law_open_cells) (c_law_fraction : Cal P w K mg base "_law_fraction" 2 ["source"] S_law_fraction) (c_law_chain : Cal P w K mg base "_law_chain" 2 ["a", "b"] S_law_chain) (c_tree_way : Cal P w K mg base "tree_way" 2 ["x"] S_tree_way) (c_law_fault : Cal P w K mg base "_law_fault" 3 ["x", "value"] S_law_fault) (c_law_pick : Cal P w K mg base "_law_pick" 1 ["source", "most"] S_law_pick) (c_law_bent : Cal P w K mg base "_law_bent" 6 ["source", "value", "odd"] (S_law_bent 3)) (c_judge_place : Cal P w K mg base "judge_place" 2 ["x", "value"] S_judge_place) (z_len : mg "len" = none) (z_list : mg "list" = none) (z_max : mg "max" = none) (z_min : mg "min" = none) (z_range : mg "range" = none) (z_repr : mg "repr" = none) (z_sum : mg "sum" = none) : FnG P w K mg base 7 f fd ["script"] S_law :=
  (def_g D sc_law (fun cdv A outer s H B m => (mss_cons (ms_set m.nd 1 (mcl c_law_open_cells m (ma_cons (mv 0) ma_nil))) (mss_cons (ms_set m.nd 2 (thaw (mlst (ma_cons mnon (ma_cons mbl (ma_cons mint (ma_cons mint (ma_cons (mneg (weak mint)) (ma_cons mstr (ma_cons (mtup ma_nil) (ma_cons (mtup (ma_cons mint ma_nil)) (ma_cons (mtup (ma_cons mint (ma_cons mint ma_nil))) (ma_cons (mtup (ma_cons mint (ma_cons mint ma_nil))) (ma_cons (mtup (ma_cons mint (ma_cons mint ma_nil))) (ma_cons (thaw (mlst ma_nil)) (ma_cons memp (ma_cons (mop om_pow (weak mint) (weak mint)) ma_nil))))))))))))))))) (mss_cons (ms_for PassesOwn.never m.calm (mi_range1 z_range (maw_cons (weak mint) maw_nil)) (mg_name m.nd 3) (fun _ => (mss_cons (ms_set m.nd 4 (mcl c_law_fraction m (ma_cons (mv 1) ma_nil))) (mss_one (ms_if (mtcmp om_lt (weak (mcB (cm_sumA m) z_sum (maw_cons (weak (mcl c_law_chain m (ma_cons (mcB (cm_maxA m) z_max (maw_cons (mw 4) maw_nil) rfl bb_max) (ma_cons (mcB (cm_minA m) z_min (maw_cons (mw 4) maw_nil) rfl bb_min) ma_nil)))) maw_nil) rfl bb_sum)) (weak mint)) (mss_cons (ms_set m.nd 5 (mcl c_tree_way m (ma_cons (mv 4) ma_nil))) (mss_cons (ms_if (mtcmp om_isnot (weak (mcl c_law_fault m (ma_cons (mv 4) (ma_cons (mv 5) ma_nil)))) (weak mnon)) (mss_one (ms_ret mbl)) mss_nil) (mss_cons (ms_par (i := 6) (j := 7) m.calm m.nd (ma_cons (mcl c_law_pick m (ma_cons (mv 1) (ma_cons (mcB cm_len z_len (maw_cons (mw 5) maw_nil) rfl bb_len) ma_nil))) (ma_cons (mcl c_law_fraction m (ma_cons (mv 1) ma_nil)) ma_nil))) (mss_cons (ms_set m.nd 8 (thaw (mlst (ma_cons (mv 5) (ma_cons (msl (mw 5) mo_none (mo_some (weak (mneg (weak mint))))) (ma_cons (mop om_add (mw 5) (weak (msl (mw 5) (mo_some (weak (mneg (weak mint)))) mo_none))) (ma_cons (msl (mw 5) (mo_some (weak mint)) mo_none) (ma_cons (mrevA (mw 5)) (ma_cons (thaw (mcTF cf_list z_list (maw_cons (mw 5) maw_nil) rfl bb_list)) (ma_cons mnon (ma_cons (mtup ma_nil) (ma_cons (mtup (ma_cons (mv 4) ma_nil)) (ma_cons (mtup (ma_cons (mtup (ma_cons mint (ma_cons mint ma_nil))) (ma_cons (mv 4) ma_nil))) ma_nil))))))))))))) (mss_cons (ms_set m.nd 8 (mop om_add (mw 8) (thawW (mlst (ma_cons (mop om_add (weak (mop om_add (weak (msl (mw 5) mo_none (mo_some (mw 6)))) (weak (mtup (ma_cons (mv 7) ma_nil))))) (weak (msl (mw 5) (mo_some (weak (mop om_add (mw 6) (weak mint)))) mo_none))) (ma_cons (mop om_add (weak (mop om_add (weak (msl (mw 5) mo_none (mo_some (mw 6)))) (weak (mtup (ma_cons (thaw (mcTF cf_list z_list (maw_cons (weak (mix (mw 5) (mw 6))) maw_nil) rfl bb_list)) ma_nil))))) (weak (msl (mw 5) (mo_some (weak (mop om_add (mw 6) (weak mint)))) mo_none))) (ma_cons (mv 4) ma_nil))))))) (mss_cons (ms_asg (mix (mw 5) (weak (mneg (weak mint)))) (mg_tup (n := 2) m.calm (mg_cons (mg_name m.nd 9) (mg_cons (mg_name m.nd 10) mg_nil)))) (mss_cons (ms_set m.nd 8 (mop om_add (mw 8) (thawW (mlst (ma_cons (mop om_add (mw 5) (weak (mtup (ma_cons (mtup (ma_cons (mop om_add (mw 9) (mw 10)) (ma_cons (mv 10) ma_nil))) ma_nil)))) (ma_cons (mop om_add (weak (msl (mw 5) mo_none (mo_some (mw 6)))) (weak (msl (mw 5) (mo_some (weak (mop om_add (mw 6) (weak mint)))) mo_none))) ma_nil)))))) (mss_one (ms_for PassesOwn.never m.calm (mi_seq (mop om_add (mw 8) (thawW (mlc [("turn", 14)] m (mi_e (mi_range1 z_range (maw_cons (weak mint) maw_nil))) (blkOk_by (N := N_law) (sc := (defScope s_law)) (by decide +kernel)) (fun _ _ _ _ _ => (mg_name (m).blk.nd 14)) (fun _ _ _ _ _ => mts_nil) (fun _ _ _ _ _ => (mcl c_law_bent (m).blk (ma_cons (mv 1) (ma_cons (mv 5) (ma_cons (mv 2) ma_nil))))))))) (mg_name m.nd 11) (fun _ => (mss_cons (ms_par (i := 12) (j := 13) m.calm m.nd (ma_cons (mcB (cm_reprE m) z_repr (maw_cons (mw 11) maw_nil) rfl bb_repr) (ma_cons (mcl c_law_fault m (ma_cons (mv 4) (ma_cons (mv 11) ma_nil))) ma_nil))) (mss_one (ms_if (PW.pt (mt_or (mtcmp (om_neZ m) (weak (mcB (cm_reprE m) z_repr (maw_cons (weak (mcl c_judge_place m (ma_cons (mv 4) (ma_cons (mv 11) ma_nil)))) maw_nil) rfl bb_repr)) (weak (mcB (cm_reprE m) z_repr (maw_cons (mw 13) maw_nil) rfl bb_repr))) (mt_or1 (mtcmp (om_neZ m) (weak (mcB (cm_reprE m) z_repr (maw_cons (mw 11) maw_nil) rfl bb_repr)) (mw 12))))) (mss_one (ms_ret mbl)) mss_nil))))))))))))) mss_nil))))) (mss_one (ms_ret (mcmp (om_eqZ m) (weak (mcl c_judge_place m (ma_cons (mtup (ma_cons mint (ma_cons mint ma_nil))) (ma_cons (mtup (ma_cons (mtup (ma_cons mint (ma_cons mint ma_nil))) (ma_cons (mtup (ma_cons mint (ma_cons mint ma_nil))) ma_nil))) ma_nil)))) (weak (mtup (ma_cons mstr (ma_cons mint ma_nil)))))))))))).imp S_law_ok
end
-- END
theorem all_mk {l : PySem.W.OpenLaw} {w : World} {K : PySem.W.Frag} {h : Heap} {mg : Str → Option Value} {fa : Addr} (X : K.In h) (G : h.Ns mainGlobals mg) (hfa : mg "law" = some (.ref fa))
    {f0 : Addr} {od0 an0 : Option Addr} {sl0 : Array (Option Value)} {oc0 kV0 dc0 pm0 cd0 ct0 : Value}
    (a0 : PySem.W.nsIn K mainGlobals "tree_sons" = some (some (.ref f0))) (l0 : K.lookup f0 = some ⟨oc0, od0, .func (PySem.W.fnOf "tree_sons" "tree_sons" (defArgs s_tree_sons) (defBody s_tree_sons) (defScope s_tree_sons) .none kV0 dc0 pm0 an0 cd0 ct0), sl0⟩) (c0 : PySem.W.codeIn K cd0 "tree_sons" = true) (k0 : PySem.W.keepIn K (.ref f0) = true)
    {f1 : Addr} {od1 an1 : Option Addr} {sl1 : Array (Option Value)} {oc1 kV1 dc1 pm1 cd1 ct1 : Value}
    (a1 : PySem.W.nsIn K mainGlobals "tree_father" = some (some (.ref f1))) (l1 : K.lookup f1 = some ⟨oc1, od1, .func (PySem.W.fnOf "tree_father" "tree_father" (defArgs s_tree_father) (defBody s_tree_father) (defScope s_tree_father) .none kV1 dc1 pm1 an1 cd1 ct1), sl1⟩) (c1 : PySem.W.codeIn K cd1 "tree_father" = true) (k1 : PySem.W.keepIn K (.ref f1) = true)
    {f2 : Addr} {od2 an2 : Option Addr} {sl2 : Array (Option Value)} {oc2 kV2 dc2 pm2 cd2 ct2 : Value}
    (a2 : PySem.W.nsIn K mainGlobals "tree_way" = some (some (.ref f2))) (l2 : K.lookup f2 = some ⟨oc2, od2, .func (PySem.W.fnOf "tree_way" "tree_way" (defArgs s_tree_way) (defBody s_tree_way) (defScope s_tree_way) .none kV2 dc2 pm2 an2 cd2 ct2), sl2⟩) (c2 : PySem.W.codeIn K cd2 "tree_way" = true) (k2 : PySem.W.keepIn K (.ref f2) = true)
    {f3 : Addr} {od3 an3 : Option Addr} {sl3 : Array (Option Value)} {oc3 kV3 dc3 pm3 cd3 ct3 : Value}
    (a3 : PySem.W.nsIn K mainGlobals "is_fraction_above" = some (some (.ref f3))) (l3 : K.lookup f3 = some ⟨oc3, od3, .func (PySem.W.fnOf "is_fraction_above" "is_fraction_above" (defArgs s_is_fraction_above) (defBody s_is_fraction_above) (defScope s_is_fraction_above) .none kV3 dc3 pm3 an3 cd3 ct3), sl3⟩) (c3 : PySem.W.codeIn K cd3 "is_fraction_above" = true) (k3 : PySem.W.keepIn K (.ref f3) = true)
    {f4 : Addr} {od4 an4 : Option Addr} {sl4 : Array (Option Value)} {oc4 kV4 dc4 pm4 cd4 ct4 : Value}
    (a4 : PySem.W.nsIn K mainGlobals "judge_place" = some (some (.ref f4))) (l4 : K.lookup f4 = some ⟨oc4, od4, .func (PySem.W.fnOf "judge_place" "judge_place" (defArgs s_judge_place) (defBody s_judge_place) (defScope s_judge_place) .none kV4 dc4 pm4 an4 cd4 ct4), sl4⟩) (c4 : PySem.W.codeIn K cd4 "judge_place" = true) (k4 : PySem.W.keepIn K (.ref f4) = true)
    {f5 : Addr} {od5 an5 : Option Addr} {sl5 : Array (Option Value)} {oc5 kV5 dc5 pm5 cd5 ct5 : Value}
    (a5 : PySem.W.nsIn K mainGlobals "_law_open_cells" = some (some (.ref f5))) (l5 : K.lookup f5 = some ⟨oc5, od5, .func (PySem.W.fnOf "_law_open_cells" "_law_open_cells" (defArgs s_law_open_cells) (defBody s_law_open_cells) (defScope s_law_open_cells) .none kV5 dc5 pm5 an5 cd5 ct5), sl5⟩) (c5 : PySem.W.codeIn K cd5 "_law_open_cells" = true) (k5 : PySem.W.keepIn K (.ref f5) = true)
    {f6 : Addr} {od6 an6 : Option Addr} {sl6 : Array (Option Value)} {oc6 kV6 dc6 pm6 cd6 ct6 : Value}
    (a6 : PySem.W.nsIn K mainGlobals "_law_pick" = some (some (.ref f6))) (l6 : K.lookup f6 = some ⟨oc6, od6, .func (PySem.W.fnOf "_law_pick" "_law_pick" (defArgs s_law_pick) (defBody s_law_pick) (defScope s_law_pick) .none kV6 dc6 pm6 an6 cd6 ct6), sl6⟩) (c6 : PySem.W.codeIn K cd6 "_law_pick" = true) (k6 : PySem.W.keepIn K (.ref f6) = true)
    {f7 : Addr} {od7 an7 : Option Addr} {sl7 : Array (Option Value)} {oc7 kV7 dc7 pm7 cd7 ct7 : Value}
    (a7 : PySem.W.nsIn K mainGlobals "_law_of" = some (some (.ref f7))) (l7 : K.lookup f7 = some ⟨oc7, od7, .func (PySem.W.fnOf "_law_of" "_law_of" (defArgs s_law_of) (defBody s_law_of) (defScope s_law_of) .none kV7 dc7 pm7 an7 cd7 ct7), sl7⟩) (c7 : PySem.W.codeIn K cd7 "_law_of" = true) (k7 : PySem.W.keepIn K (.ref f7) = true)
    {f8 : Addr} {od8 an8 : Option Addr} {sl8 : Array (Option Value)} {oc8 kV8 dc8 pm8 cd8 ct8 : Value}
    (a8 : PySem.W.nsIn K mainGlobals "_law_is_int" = some (some (.ref f8))) (l8 : K.lookup f8 = some ⟨oc8, od8, .func (PySem.W.fnOf "_law_is_int" "_law_is_int" (defArgs s_law_is_int) (defBody s_law_is_int) (defScope s_law_is_int) .none kV8 dc8 pm8 an8 cd8 ct8), sl8⟩) (c8 : PySem.W.codeIn K cd8 "_law_is_int" = true) (k8 : PySem.W.keepIn K (.ref f8) = true)
    {f9 : Addr} {od9 an9 : Option Addr} {sl9 : Array (Option Value)} {oc9 kV9 dc9 pm9 cd9 ct9 : Value}
    (a9 : PySem.W.nsIn K mainGlobals "_law_bent" = some (some (.ref f9))) (l9 : K.lookup f9 = some ⟨oc9, od9, .func (PySem.W.fnOf "_law_bent" "_law_bent" (defArgs s_law_bent) (defBody s_law_bent) (defScope s_law_bent) .none kV9 dc9 pm9 an9 cd9 ct9), sl9⟩) (c9 : PySem.W.codeIn K cd9 "_law_bent" = true) (k9 : PySem.W.keepIn K (.ref f9) = true)
    {f10 : Addr} {od10 an10 : Option Addr} {sl10 : Array (Option Value)} {oc10 kV10 dc10 pm10 cd10 ct10 : Value}
    (a10 : PySem.W.nsIn K mainGlobals "_law_steps" = some (some (.ref f10))) (l10 : K.lookup f10 = some ⟨oc10, od10, .func (PySem.W.fnOf "_law_steps" "_law_steps" (defArgs s_law_steps) (defBody s_law_steps) (defScope s_law_steps) .none kV10 dc10 pm10 an10 cd10 ct10), sl10⟩) (c10 : PySem.W.codeIn K cd10 "_law_steps" = true) (k10 : PySem.W.keepIn K (.ref f10) = true)
    {f11 : Addr} {od11 an11 : Option Addr} {sl11 : Array (Option Value)} {oc11 kV11 dc11 pm11 cd11 ct11 : Value}
    (a11 : PySem.W.nsIn K mainGlobals "_law_chain" = some (some (.ref f11))) (l11 : K.lookup f11 = some ⟨oc11, od11, .func (PySem.W.fnOf "_law_chain" "_law_chain" (defArgs s_law_chain) (defBody s_law_chain) (defScope s_law_chain) .none kV11 dc11 pm11 an11 cd11 ct11), sl11⟩) (c11 : PySem.W.codeIn K cd11 "_law_chain" = true) (k11 : PySem.W.keepIn K (.ref f11) = true)
    {f12 : Addr} {od12 an12 : Option Addr} {sl12 : Array (Option Value)} {oc12 kV12 dc12 pm12 cd12 ct12 : Value}
    (a12 : PySem.W.nsIn K mainGlobals "_law_common" = some (some (.ref f12))) (l12 : K.lookup f12 = some ⟨oc12, od12, .func (PySem.W.fnOf "_law_common" "_law_common" (defArgs s_law_common) (defBody s_law_common) (defScope s_law_common) .none kV12 dc12 pm12 an12 cd12 ct12), sl12⟩) (c12 : PySem.W.codeIn K cd12 "_law_common" = true) (k12 : PySem.W.keepIn K (.ref f12) = true)
    {f13 : Addr} {od13 an13 : Option Addr} {sl13 : Array (Option Value)} {oc13 kV13 dc13 pm13 cd13 ct13 : Value}
    (a13 : PySem.W.nsIn K mainGlobals "_law_fraction" = some (some (.ref f13))) (l13 : K.lookup f13 = some ⟨oc13, od13, .func (PySem.W.fnOf "_law_fraction" "_law_fraction" (defArgs s_law_fraction) (defBody s_law_fraction) (defScope s_law_fraction) .none kV13 dc13 pm13 an13 cd13 ct13), sl13⟩) (c13 : PySem.W.codeIn K cd13 "_law_fraction" = true) (k13 : PySem.W.keepIn K (.ref f13) = true)
    {f14 : Addr} {od14 an14 : Option Addr} {sl14 : Array (Option Value)} {oc14 kV14 dc14 pm14 cd14 ct14 : Value}
    (a14 : PySem.W.nsIn K mainGlobals "_law_is_fraction" = some (some (.ref f14))) (l14 : K.lookup f14 = some ⟨oc14, od14, .func (PySem.W.fnOf "_law_is_fraction" "_law_is_fraction" (defArgs s_law_is_fraction) (defBody s_law_is_fraction) (defScope s_law_is_fraction) .none kV14 dc14 pm14 an14 cd14 ct14), sl14⟩) (c14 : PySem.W.codeIn K cd14 "_law_is_fraction" = true) (k14 : PySem.W.keepIn K (.ref f14) = true)
    {f15 : Addr} {od15 an15 : Option Addr} {sl15 : Array (Option Value)} {oc15 kV15 dc15 pm15 cd15 ct15 : Value}
    (a15 : PySem.W.nsIn K mainGlobals "_law_fault" = some (some (.ref f15))) (l15 : K.lookup f15 = some ⟨oc15, od15, .func (PySem.W.fnOf "_law_fault" "_law_fault" (defArgs s_law_fault) (defBody s_law_fault) (defScope s_law_fault) .none kV15 dc15 pm15 an15 cd15 ct15), sl15⟩) (c15 : PySem.W.codeIn K cd15 "_law_fault" = true) (k15 : PySem.W.keepIn K (.ref f15) = true)
    {f16 : Addr} {od16 an16 : Option Addr} {sl16 : Array (Option Value)} {oc16 kV16 dc16 pm16 cd16 ct16 : Value}
    (a16 : PySem.W.nsIn K mainGlobals "law" = some (some (.ref f16))) (l16 : K.lookup f16 = some ⟨oc16, od16, .func (PySem.W.fnOf "law" "law" (defArgs s_law) (defBody s_law) (defScope s_law) .none kV16 dc16 pm16 an16 cd16 ct16), sl16⟩) (c16 : PySem.W.codeIn K cd16 "law" = true) (k16 : PySem.W.keepIn K (.ref f16) = true)
    (z_abs : PySem.W.nsIn K mainGlobals "abs" = some none)
    (z_all : PySem.W.nsIn K mainGlobals "all" = some none)
    (z_bool : PySem.W.nsIn K mainGlobals "bool" = some none)
    (z_gcd : PySem.W.nsIn K mainGlobals "gcd" = some (some (.builtin "math.gcd")))
    (z_int : PySem.W.nsIn K mainGlobals "int" = some none)
    (z_isinstance : PySem.W.nsIn K mainGlobals "isinstance" = some none)
    (z_len : PySem.W.nsIn K mainGlobals "len" = some none)
    (z_list : PySem.W.nsIn K mainGlobals "list" = some none)
    (z_max : PySem.W.nsIn K mainGlobals "max" = some none)
    (z_min : PySem.W.nsIn K mainGlobals "min" = some none)
    (z_range : PySem.W.nsIn K mainGlobals "range" = some none)
    (z_repr : PySem.W.nsIn K mainGlobals "repr" = some none)
    (z_sum : PySem.W.nsIn K mainGlobals "sum" = some none)
    (z_tuple : PySem.W.nsIn K mainGlobals "tuple" = some none)
    : ∃ fd : FuncData, (∀ (s : Shared) (v : Value), BindsTo s fd ⟨[v], []⟩ [("script", v)]) ∧ ∀ base : Heap, K.In base → base.Ns mainGlobals mg → FnG l.prog w K mg base 7 fa fd ["script"] S_law := by
  have e := hfa.symm.trans (PySem.W.mg_of X G a16)
  cases e
  have F0 := fun_mk (st := s_tree_sons) l0 c0 k0
  have D0 : DefAt K mg "tree_sons" s_tree_sons ["x"] := ⟨⟨_, _, F0, PySem.W.mg_of X G a0, F0.binds (ps := ["x"]) fun _ _ _ _ _ _ us hl => match us, hl with | [_], _ => rfl⟩⟩
  have F1 := fun_mk (st := s_tree_father) l1 c1 k1
  have D1 : DefAt K mg "tree_father" s_tree_father ["x"] := ⟨⟨_, _, F1, PySem.W.mg_of X G a1, F1.binds (ps := ["x"]) fun _ _ _ _ _ _ us hl => match us, hl with | [_], _ => rfl⟩⟩
  have F2 := fun_mk (st := s_tree_way) l2 c2 k2
  have D2 : DefAt K mg "tree_way" s_tree_way ["x"] := ⟨⟨_, _, F2, PySem.W.mg_of X G a2, F2.binds (ps := ["x"]) fun _ _ _ _ _ _ us hl => match us, hl with | [_], _ => rfl⟩⟩
  have F3 := fun_mk (st := s_is_fraction_above) l3 c3 k3
  have D3 : DefAt K mg "is_fraction_above" s_is_fraction_above ["value"] := ⟨⟨_, _, F3, PySem.W.mg_of X G a3, F3.binds (ps := ["value"]) fun _ _ _ _ _ _ us hl => match us, hl with | [_], _ => rfl⟩⟩
  have F4 := fun_mk (st := s_judge_place) l4 c4 k4
  have D4 : DefAt K mg "judge_place" s_judge_place ["x", "value"] := ⟨⟨_, _, F4, PySem.W.mg_of X G a4, F4.binds (ps := ["x", "value"]) fun _ _ _ _ _ _ us hl => match us, hl with | [_, _], _ => rfl⟩⟩
  have F5 := fun_mk (st := s_law_open_cells) l5 c5 k5
  have D5 : DefAt K mg "_law_open_cells" s_law_open_cells ["script"] := ⟨⟨_, _, F5, PySem.W.mg_of X G a5, F5.binds (ps := ["script"]) fun _ _ _ _ _ _ us hl => match us, hl with | [_], _ => rfl⟩⟩
  have F6 := fun_mk (st := s_law_pick) l6 c6 k6
  have D6 : DefAt K mg "_law_pick" s_law_pick ["source", "most"] := ⟨⟨_, _, F6, PySem.W.mg_of X G a6, F6.binds (ps := ["source", "most"]) fun _ _ _ _ _ _ us hl => match us, hl with | [_, _], _ => rfl⟩⟩
  have F7 := fun_mk (st := s_law_of) l7 c7 k7
  have D7 : DefAt K mg "_law_of" s_law_of ["source", "some"] := ⟨⟨_, _, F7, PySem.W.mg_of X G a7, F7.binds (ps := ["source", "some"]) fun _ _ _ _ _ _ us hl => match us, hl with | [_, _], _ => rfl⟩⟩
  have F8 := fun_mk (st := s_law_is_int) l8 c8 k8
  have D8 : DefAt K mg "_law_is_int" s_law_is_int ["value"] := ⟨⟨_, _, F8, PySem.W.mg_of X G a8, F8.binds (ps := ["value"]) fun _ _ _ _ _ _ us hl => match us, hl with | [_], _ => rfl⟩⟩
  have F9 := fun_mk (st := s_law_bent) l9 c9 k9
  have D9 : DefAt K mg "_law_bent" s_law_bent ["source", "value", "odd"] := ⟨⟨_, _, F9, PySem.W.mg_of X G a9, F9.binds (ps := ["source", "value", "odd"]) fun _ _ _ _ _ _ us hl => match us, hl with | [_, _, _], _ => rfl⟩⟩
  have F10 := fun_mk (st := s_law_steps) l10 c10 k10
  have D10 : DefAt K mg "_law_steps" s_law_steps ["sort", "a", "b"] := ⟨⟨_, _, F10, PySem.W.mg_of X G a10, F10.binds (ps := ["sort", "a", "b"]) fun _ _ _ _ _ _ us hl => match us, hl with | [_, _, _], _ => rfl⟩⟩
  have F11 := fun_mk (st := s_law_chain) l11 c11 k11
  have D11 : DefAt K mg "_law_chain" s_law_chain ["a", "b"] := ⟨⟨_, _, F11, PySem.W.mg_of X G a11, F11.binds (ps := ["a", "b"]) fun _ _ _ _ _ _ us hl => match us, hl with | [_, _], _ => rfl⟩⟩
  have F12 := fun_mk (st := s_law_common) l12 c12 k12
  have D12 : DefAt K mg "_law_common" s_law_common ["a", "b"] := ⟨⟨_, _, F12, PySem.W.mg_of X G a12, F12.binds (ps := ["a", "b"]) fun _ _ _ _ _ _ us hl => match us, hl with | [_, _], _ => rfl⟩⟩
  have F13 := fun_mk (st := s_law_fraction) l13 c13 k13
  have D13 : DefAt K mg "_law_fraction" s_law_fraction ["source"] := ⟨⟨_, _, F13, PySem.W.mg_of X G a13, F13.binds (ps := ["source"]) fun _ _ _ _ _ _ us hl => match us, hl with | [_], _ => rfl⟩⟩
  have F14 := fun_mk (st := s_law_is_fraction) l14 c14 k14
  have D14 : DefAt K mg "_law_is_fraction" s_law_is_fraction ["value"] := ⟨⟨_, _, F14, PySem.W.mg_of X G a14, F14.binds (ps := ["value"]) fun _ _ _ _ _ _ us hl => match us, hl with | [_], _ => rfl⟩⟩
  have F15 := fun_mk (st := s_law_fault) l15 c15 k15
  have D15 : DefAt K mg "_law_fault" s_law_fault ["x", "value"] := ⟨⟨_, _, F15, PySem.W.mg_of X G a15, F15.binds (ps := ["x", "value"]) fun _ _ _ _ _ _ us hl => match us, hl with | [_, _], _ => rfl⟩⟩
  have F16 := fun_mk (st := s_law) l16 c16 k16
  have w_abs := PySem.W.mg_none_of X G z_abs
  have w_all := PySem.W.mg_none_of X G z_all
  have w_bool := PySem.W.mg_none_of X G z_bool
  have w_gcd := PySem.W.mg_of X G z_gcd
  have w_int := PySem.W.mg_none_of X G z_int
  have w_isinstance := PySem.W.mg_none_of X G z_isinstance
  have w_len := PySem.W.mg_none_of X G z_len
  have w_list := PySem.W.mg_none_of X G z_list
  have w_max := PySem.W.mg_none_of X G z_max
  have w_min := PySem.W.mg_none_of X G z_min
  have w_range := PySem.W.mg_none_of X G z_range
  have w_repr := PySem.W.mg_none_of X G z_repr
  have w_sum := PySem.W.mg_none_of X G z_sum
  have w_tuple := PySem.W.mg_none_of X G z_tuple
  refine ⟨PySem.W.fnOf "law" "law" (defArgs s_law) (defBody s_law) (defScope s_law) .none kV16 dc16 pm16 an16 cd16 ct16, fun s v => .of_eq rfl, fun base _ _ => ?_⟩
  have c_tree_sons : Cal l.prog w K mg base "tree_sons" 1 ["x"] S_tree_sons := ok_tree_sons D0
  have c_tree_father : Cal l.prog w K mg base "tree_father" 1 ["x"] S_tree_father := ok_tree_father D1
  have c_tree_way : Cal l.prog w K mg base "tree_way" 2 ["x"] S_tree_way := ok_tree_way D2 c_tree_father w_tuple
  have c_is_fraction_above : Cal l.prog w K mg base "is_fraction_above" 1 ["value"] S_is_fraction_above := ok_is_fraction_above D3 w_all w_bool w_gcd w_int w_isinstance w_len w_tuple
  have c_judge_place : Cal l.prog w K mg base "judge_place" 2 ["x", "value"] S_judge_place := ok_judge_place D4 c_is_fraction_above c_tree_sons w_all w_isinstance w_len w_range w_tuple
  have c_law_open_cells : Cal l.prog w K mg base "_law_open_cells" 1 ["script"] S_law_open_cells := ok_law_open_cells D5 w_abs w_int
  have c_law_pick : Cal l.prog w K mg base "_law_pick" 1 ["source", "most"] S_law_pick := ok_law_pick D6 w_len w_int
  have c_law_of : Cal l.prog w K mg base "_law_of" 2 ["source", "some"] S_law_of := ok_law_of D7 c_law_pick w_len
  have c_law_is_int : Cal l.prog w K mg base "_law_is_int" 1 ["value"] S_law_is_int := ok_law_is_int D8 w_bool w_int w_isinstance
  have c_law_bent : Cal l.prog w K mg base "_law_bent" 3 ["source", "value", "odd"] (S_law_bent 0) := ok_law_bent_0 D9
  have c_law_bent : Cal l.prog w K mg base "_law_bent" 4 ["source", "value", "odd"] (S_law_bent 1) := ok_law_bent_1 D9 c_law_pick c_law_is_int c_law_of w_isinstance w_len w_tuple c_law_bent
  have c_law_bent : Cal l.prog w K mg base "_law_bent" 5 ["source", "value", "odd"] (S_law_bent 2) := ok_law_bent_2 D9 c_law_pick c_law_is_int c_law_of w_isinstance w_len w_tuple c_law_bent
  have c_law_bent : Cal l.prog w K mg base "_law_bent" 6 ["source", "value", "odd"] (S_law_bent 3) := ok_law_bent_3 D9 c_law_pick c_law_is_int c_law_of w_isinstance w_len w_tuple c_law_bent
  have c_law_steps : Cal l.prog w K mg base "_law_steps" 1 ["sort", "a", "b"] S_law_steps := ok_law_steps D10 w_int w_tuple
  have c_law_chain : Cal l.prog w K mg base "_law_chain" 2 ["a", "b"] S_law_chain := ok_law_chain D11 c_law_steps w_tuple
  have c_law_common : Cal l.prog w K mg base "_law_common" 1 ["a", "b"] S_law_common := ok_law_common D12 w_abs w_int
  have c_law_fraction : Cal l.prog w K mg base "_law_fraction" 2 ["source"] S_law_fraction := ok_law_fraction D13 c_law_pick c_law_common w_range
  have c_law_is_fraction : Cal l.prog w K mg base "_law_is_fraction" 2 ["value"] S_law_is_fraction := ok_law_is_fraction D14 c_law_is_int c_law_common w_isinstance w_len w_tuple
  have c_law_fault : Cal l.prog w K mg base "_law_fault" 3 ["x", "value"] S_law_fault := ok_law_fault D15 c_law_is_fraction w_isinstance w_len w_range w_tuple
  exact ok_law F16 c_law_open_cells c_law_fraction c_law_chain c_tree_way c_law_fault c_law_pick c_law_bent c_judge_place w_len w_list w_max w_min w_range w_repr w_sum
end LW
open PySem PySem.W PyProof.Rows
set_option maxHeartbeats 0 in
theorem PySem.Challenge.cw_mediantrows_k30_place_papers_judged_holds : PySem.Challenge.rw_mediantrows_k30_place_papers_judged.Holds := by
  w_on; o_law; k_head; (case hw => w_witness2)
  k_fill
  refine MM.walk_g (l := PySem.Challenge.rw_mediantrows_k30_place_papers_judged) (n := 63) (k := 7) (x := "script") (R := LW.S_law) rfl (by decide) rfl ⟨rfl, by decide, by decide⟩ (fun w h Y => PySem.W.kIn_of Y) ?F (fun ns hl => LW.law_true ns hl)
  case F =>
    intro w mg fa h KX G hmg
    refine' LW.all_mk KX G hmg ?a0 ?l0 ?c0 ?k0 ?a1 ?l1 ?c1 ?k1 ?a2 ?l2 ?c2 ?k2 ?a3 ?l3 ?c3 ?k3 ?a4 ?l4 ?c4 ?k4 ?a5 ?l5 ?c5 ?k5 ?a6 ?l6 ?c6 ?k6 ?a7 ?l7 ?c7 ?k7 ?a8 ?l8 ?c8 ?k8 ?a9 ?l9 ?c9 ?k9 ?a10 ?l10 ?c10 ?k10 ?a11 ?l11 ?c11 ?k11 ?a12 ?l12 ?c12 ?k12 ?a13 ?l13 ?c13 ?k13 ?a14 ?l14 ?c14 ?k14 ?a15 ?l15 ?c15 ?k15 ?a16 ?l16 ?c16 ?k16 ?z_abs ?z_all ?z_bool ?z_gcd ?z_int ?z_isinstance ?z_len ?z_list ?z_max ?z_min ?z_range ?z_repr ?z_sum ?z_tuple
    (case a0 => k_is)
    (case l0 => k_is)
    (case c0 => k_is)
    (case k0 => k_is)
    (case a1 => k_is)
    (case l1 => k_is)
    (case c1 => k_is)
    (case k1 => k_is)
    (case a2 => k_is)
    (case l2 => k_is)
    (case c2 => k_is)
    (case k2 => k_is)
    (case a3 => k_is)
    (case l3 => k_is)
    (case c3 => k_is)
    (case k3 => k_is)
    (case a4 => k_is)
    (case l4 => k_is)
    (case c4 => k_is)
    (case k4 => k_is)
    (case a5 => k_is)
    (case l5 => k_is)
    (case c5 => k_is)
    (case k5 => k_is)
    (case a6 => k_is)
    (case l6 => k_is)
    (case c6 => k_is)
    (case k6 => k_is)
    (case a7 => k_is)
    (case l7 => k_is)
    (case c7 => k_is)
    (case k7 => k_is)
    (case a8 => k_is)
    (case l8 => k_is)
    (case c8 => k_is)
    (case k8 => k_is)
    (case a9 => k_is)
    (case l9 => k_is)
    (case c9 => k_is)
    (case k9 => k_is)
    (case a10 => k_is)
    (case l10 => k_is)
    (case c10 => k_is)
    (case k10 => k_is)
    (case a11 => k_is)
    (case l11 => k_is)
    (case c11 => k_is)
    (case k11 => k_is)
    (case a12 => k_is)
    (case l12 => k_is)
    (case c12 => k_is)
    (case k12 => k_is)
    (case a13 => k_is)
    (case l13 => k_is)
    (case c13 => k_is)
    (case k13 => k_is)
    (case a14 => k_is)
    (case l14 => k_is)
    (case c14 => k_is)
    (case k14 => k_is)
    (case a15 => k_is)
    (case l15 => k_is)
    (case c15 => k_is)
    (case k15 => k_is)
    (case a16 => k_is)
    (case l16 => k_is)
    (case c16 => k_is)
    (case k16 => k_is)
    (case z_abs => k_is)
    (case z_all => k_is)
    (case z_bool => k_is)
    (case z_gcd => k_is)
    (case z_int => k_is)
    (case z_isinstance => k_is)
    (case z_len => k_is)
    (case z_list => k_is)
    (case z_max => k_is)
    (case z_min => k_is)
    (case z_range => k_is)
    (case z_repr => k_is)
    (case z_sum => k_is)
    (case z_tuple => k_is)
