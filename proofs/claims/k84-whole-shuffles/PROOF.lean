import PyProof.Rows.All
import Wide.All
import OpenK.AllK
import Wide.FinOn
import HandS.ForMost
import HandS.Conv
import HandS.TupAny
import HandS.IsInst
import HandS.Style
import HandS.Deep
import HandS.Wide
import HandS.Replace
import HandS.More
import HandS.Strs
import HandS.ForExc
import HandS.Defaults
import HandS.TryOnly
import HandS.ExcOwn
import HandS.WordsExc
import HandS.Head0
import HandS.Head1
import HandS.Head2
import HandS.HeadEnd
import HandS.HeadHook1
import HandS.HeadHook2
import HandS.HeadHook3
import HandS.HeadHook4
import KE.KStateDown
import HandS.NoneIn
import PyProof.EqAt
import PyProof.EqKinds
import PyProof.FactsAll.tuple
import KE.GoesEnum
import KE.KDictKeyed
import KE.KDictDisplayH
import Lean
import PySem.Challenge.RW_takeleave_k84_whole_shuffles_alike_or_pa
set_option Elab.async false
set_option linter.all false
set_option maxRecDepth 100000
set_option maxHeartbeats 0
section
namespace Tk
open PySem PySem.Spec PyProof.Rows L2

/-! ## the data layer: values as data, the heap out of sight -/
abbrev PD := PyData
inductive Mu where
  | no
  | own (p : Addr) (xs : List PD)
  | deck (p : Addr)
structure Mm where
  av : Addr → Prop
  mu : Mu
def Mm.dk (m : Mm) : Option Addr := match m.mu with
  | .deck p => some p
  | _ => none
/-- a tuple whose object is known: a plain one -/
def ExT (H : Hp) (a : Addr) (xs : List V) : Prop := ∃ ob : Obj, H a = some (.frz ob (.tup xs)) ∧ ob.cls = .type "tuple" ∧ ob.dict = none
/-- .. of ints, as data -/
def tX (ns : List Int) : PyData := .dict [(.none, .tuple (ns.map .int))]
mutual
inductive Rp (K : PySem.W.Frag) (av : Addr → Prop) (H : Hp) : V → PyData → Prop
  | non : Rp K av H .non .none
  | bl (b : Bool) : Rp K av H (.bl b) (.bool b)
  | int (i : Int) : Rp K av H (.int i) (.int i)
  | str (x : Str) : Rp K av H (.str x) (.str x)
  | lst {a : Addr} {xs : List V} {ds : List PyData} : H a = some (.lst xs) → ¬ av a → RpA K av H xs ds → Rp K av H (.ref a) (.list ds)
  | tup {a : Addr} {xs : List V} {ds : List PyData} : SqT K H a xs → RpA K av H xs ds → Rp K av H (.ref a) (.tuple ds)
  | tx {a : Addr} {ns : List Int} : ExT H a (ns.map V.int) → Rp K av H (.ref a) (.dict [(.none, .tuple (ns.map .int))])
inductive RpA (K : PySem.W.Frag) (av : Addr → Prop) (H : Hp) : List V → List PyData → Prop
  | nil : RpA K av H [] []
  | cons {v : V} {vs : List V} {d : PyData} {ds : List PyData} : Rp K av H v d → RpA K av H vs ds → RpA K av H (v :: vs) (d :: ds)
end
/-- what stands stays, but for a list at k -/
def Kp (k : Option Addr) (H H' : Hp) : Prop := ∀ a o, H a = some o → (k = some a → ∀ xs, o ≠ .lst xs) → H' a = some o
theorem Kp.refl (k : Option Addr) (H : Hp) : Kp k H H := fun _ _ e _ => e
theorem Kp.trans {k : Option Addr} {H H1 H2 : Hp} (a : Kp k H H1) (b : Kp k H1 H2) : Kp k H H2 := fun x o e z => b x o (a x o e z) z
theorem Kp.new {k : Option Addr} {H : Hp} {p : Addr} {o : HO} (h : H p = none) : Kp k H (upd H p o) := fun a u e _ => by
  rw [upd_ne (ne_of_none e h)]
  exact e
theorem Kp.same {k : Option Addr} {H H' : Hp} (s : Same H H') : Kp k H H' := fun a o e _ => s a o e
theorem Kp.toSame {H H' : Hp} (s : Kp none H H') : Same H H' := fun a o e => s a o e (fun z => nomatch z)
theorem Kp.weak {k : Option Addr} {H H' : Hp} (s : Kp none H H') : Kp k H H' := fun a o e _ => s a o e (fun z => nomatch z)
theorem Kp.sqT {K : PySem.W.Frag} {k : Option Addr} {H H' : Hp} (s : Kp k H H') {a : Addr} {xs : List V} (h : SqT K H a xs) : SqT K H' a xs := by
  rcases h with (h | ⟨o, h⟩) | h
  · exact .inl (.inl (s _ _ h (fun _ ys z => nomatch z)))
  · exact .inl (.inr ⟨o, s _ _ h (fun _ ys z => nomatch z)⟩)
  · exact .inr h
/-- tuples stay -/
def TupK (K : PySem.W.Frag) (H H' : Hp) : Prop := (∀ a xs, SqT K H a xs → SqT K H' a xs) ∧ ∀ a xs, ExT H a xs → ExT H' a xs
theorem TupK.refl (K : PySem.W.Frag) (H : Hp) : TupK K H H := ⟨fun _ _ h => h, fun _ _ h => h⟩
theorem TupK.trans {K : PySem.W.Frag} {H H1 H2 : Hp} (a : TupK K H H1) (b : TupK K H1 H2) : TupK K H H2 := ⟨fun x o e => b.1 x o (a.1 x o e), fun x o e => b.2 x o (a.2 x o e)⟩
theorem ExT.sq {K : PySem.W.Frag} {H : Hp} {a : Addr} {xs : List V} (h : ExT H a xs) : SqT K H a xs := by
  obtain ⟨ob, h, _⟩ := h
  exact .inl (.inr ⟨ob, h⟩)
theorem Kp.tt {K : PySem.W.Frag} {k : Option Addr} {H H' : Hp} (s : Kp k H H') : TupK K H H' := ⟨fun _ _ h => s.sqT h, fun a xs ⟨ob, h1, h2⟩ => ⟨ob, s _ _ h1 (fun _ ys z => nomatch z), h2⟩⟩
theorem tt_upd {K : PySem.W.Frag} {H : Hp} {q : Addr} {zs : List V} {o : HO} (h : H q = some (.lst zs)) : TupK K H (upd H q o) := by
  refine ⟨fun a xs z => ?_, fun a xs ⟨ob, h1, h2⟩ => ⟨ob, by rw [upd_ne (ne_of h1 h (fun z => nomatch z))]; exact h1, h2⟩⟩
  rcases z with (z | ⟨o, z⟩) | z
  · exact .inl (.inl (by rw [upd_ne (ne_of z h (fun z => nomatch z))]; exact z))
  · exact .inl (.inr ⟨o, by rw [upd_ne (ne_of z h (fun z => nomatch z))]; exact z⟩)
  · exact .inr z
mutual
theorem Rp.mono {K : PySem.W.Frag} {av av' : Addr → Prop} {H H' : Hp} (hT : TupK K H H') (hL : ∀ a xs, H a = some (.lst xs) → ¬ av a → H' a = some (.lst xs) ∧ ¬ av' a) :
    ∀ (d : PyData) (v : V), Rp K av H v d → Rp K av' H' v d
  | .none, _, h => by cases h; exact .non
  | .bool b, _, h => by cases h; exact .bl b
  | .int i, _, h => by cases h; exact .int i
  | .str x, _, h => by cases h; exact .str x
  | .list ds, _, h => by
    cases h with
    | lst h1 h2 h3 => exact .lst (hL _ _ h1 h2).1 (hL _ _ h1 h2).2 (RpA.mono hT hL ds _ h3)
  | .tuple ds, _, h => by
    cases h with
    | tup h1 h3 => exact .tup (hT.1 _ _ h1) (RpA.mono hT hL ds _ h3)
  | .dict _, _, h => by
    cases h with
    | tx x => exact .tx (hT.2 _ _ x)
theorem RpA.mono {K : PySem.W.Frag} {av av' : Addr → Prop} {H H' : Hp} (hT : TupK K H H') (hL : ∀ a xs, H a = some (.lst xs) → ¬ av a → H' a = some (.lst xs) ∧ ¬ av' a) :
    ∀ (ds : List PyData) (vs : List V), RpA K av H vs ds → RpA K av' H' vs ds
  | [], _, h => by cases h; exact .nil
  | d :: ds, _, h => by
    cases h with
    | cons h1 h2 => exact .cons (Rp.mono hT hL d _ h1) (RpA.mono hT hL ds _ h2)
end
section
variable {K : PySem.W.Frag} {av av' : Addr → Prop} {H H' : Hp} {k : Option Addr}
theorem Rp.kp {d : PD} {v : V} (s : Kp k H H') (hk : ∀ p, k = some p → av p) (h : Rp K av H v d) : Rp K av H' v d :=
  Rp.mono s.tt (fun a xs e n => ⟨s _ _ e (fun z => absurd (hk a z) n), n⟩) d v h
theorem RpA.kp {ds : List PD} {vs : List V} (s : Kp k H H') (hk : ∀ p, k = some p → av p) (h : RpA K av H vs ds) : RpA K av H' vs ds :=
  RpA.mono s.tt (fun a xs e n => ⟨s _ _ e (fun z => absurd (hk a z) n), n⟩) ds vs h
theorem Rp.anti {d : PD} {v : V} (h : Rp K av H v d) (q : ∀ a, av' a → (∃ xs, H a = some (.lst xs)) → av a) : Rp K av' H v d :=
  Rp.mono (TupK.refl _ _) (fun a xs e n => ⟨e, fun z => n (q a z ⟨_, e⟩)⟩) d v h
theorem RpA.anti {ds : List PD} {vs : List V} (h : RpA K av H vs ds) (q : ∀ a, av' a → (∃ xs, H a = some (.lst xs)) → av a) : RpA K av' H vs ds :=
  RpA.mono (TupK.refl _ _) (fun a xs e n => ⟨e, fun z => n (q a z ⟨_, e⟩)⟩) ds vs h
theorem RpA.length : ∀ {vs : List V} {ds : List PD}, RpA K av H vs ds → vs.length = ds.length
  | _, [], h => by cases h; rfl
  | _, d :: ds, h => by
    cases h with
    | cons h1 h2 => rw [List.length_cons, List.length_cons, RpA.length h2]
theorem RpA.append : ∀ {vs us : List V} {ds es : List PD}, RpA K av H vs ds → RpA K av H us es → RpA K av H (vs ++ us) (ds ++ es)
  | _, _, [], _, h, q => by cases h; exact q
  | _, _, d :: ds, _, h, q => by
    cases h with
    | cons h1 h2 => exact .cons h1 (RpA.append h2 q)
theorem RpA.get : ∀ {vs : List V} {ds : List PD} {i : Nat} {v : V}, RpA K av H vs ds → vs[i]? = some v → ∃ d, ds[i]? = some d ∧ Rp K av H v d
  | _, [], i, v, h, e => by cases h; simp at e
  | _, d :: ds, 0, v, h, e => by
    cases h with
    | cons h1 h2 => cases e; exact ⟨d, rfl, h1⟩
  | _, d :: ds, i + 1, v, h, e => by
    cases h with
    | cons h1 h2 => exact RpA.get (i := i) h2 e
theorem RpA.get' {vs : List V} {ds : List PD} {i : Nat} {d : PD} (h : RpA K av H vs ds) (e : ds[i]? = some d) : ∃ v, vs[i]? = some v ∧ Rp K av H v d := by
  have hl := h.length
  obtain ⟨hi, _⟩ := List.getElem?_eq_some_iff.mp e
  have hv : vs[i]? = some (vs[i]'(by omega)) := List.getElem?_eq_getElem (by omega)
  obtain ⟨d', e', r⟩ := h.get hv
  rw [e] at e'
  cases e'
  exact ⟨_, hv, r⟩
theorem RpA.drop : ∀ {vs : List V} {ds : List PD} (n : Nat), RpA K av H vs ds → RpA K av H (vs.drop n) (ds.drop n)
  | _, _, 0, h => h
  | _, [], n + 1, h => by cases h; exact .nil
  | _, d :: ds, n + 1, h => by
    cases h with
    | cons h1 h2 => exact RpA.drop n h2
theorem RpA.take : ∀ {vs : List V} {ds : List PD} (n : Nat), RpA K av H vs ds → RpA K av H (vs.take n) (ds.take n)
  | _, _, 0, h => .nil
  | _, [], n + 1, h => by cases h; exact .nil
  | _, d :: ds, n + 1, h => by
    cases h with
    | cons h1 h2 => exact .cons h1 (RpA.take n h2)
theorem RpA.one {v : V} {d : PD} (h : Rp K av H v d) : RpA K av H [v] [d] := .cons h .nil
def cutP (ds : List PD) (lo hi : Option Int) : List PD := (ds.drop (HT.sIx ds.length 0 lo)).take (HT.sIx ds.length ds.length hi - HT.sIx ds.length 0 lo)
theorem RpA.cut {vs : List V} {ds : List PD} (h : RpA K av H vs ds) (lo hi : Option Int) : RpA K av H (cutV vs lo hi) (cutP ds lo hi) := by
  unfold cutV cutP
  rw [h.length]
  exact (h.drop _).take _
theorem RpA.ints : ∀ {vs : List V} {ns : List Int}, RpA K av H vs (ns.map PyData.int) → vs = ns.map V.int
  | _, [], h => by cases h; rfl
  | _, n :: ns, h => by
    cases h with
    | cons h1 h2 => cases h1; rw [RpA.ints h2]; rfl
theorem RpA.strs : ∀ {vs : List V} {ns : List Str}, RpA K av H vs (ns.map PyData.str) → vs = ns.map V.str
  | _, [], h => by cases h; rfl
  | _, n :: ns, h => by
    cases h with
    | cons h1 h2 => cases h1; rw [RpA.strs h2]; rfl
theorem RpA.bls : ∀ {vs : List V} {ns : List Bool}, RpA K av H vs (ns.map PyData.bool) → vs = ns.map V.bl
  | _, [], h => by cases h; rfl
  | _, n :: ns, h => by
    cases h with
    | cons h1 h2 => cases h1; rw [RpA.bls h2]; rfl
theorem RpA.ofInts : ∀ (ns : List Int), RpA K av H (ns.map V.int) (ns.map PyData.int)
  | [] => .nil
  | n :: ns => .cons (.int n) (RpA.ofInts ns)
theorem RpA.ofStrs : ∀ (ns : List Str), RpA K av H (ns.map V.str) (ns.map PyData.str)
  | [] => .nil
  | n :: ns => .cons (.str n) (RpA.ofStrs ns)
theorem RpA.ofBls : ∀ (ns : List Bool), RpA K av H (ns.map V.bl) (ns.map PyData.bool)
  | [] => .nil
  | n :: ns => .cons (.bl n) (RpA.ofBls ns)
end
/-- the module's frame: the avoided addresses stand, the own list, the deck -/
structure MuOk (K : PySem.W.Frag) (H0 : Hp) (m : Mm) (H : Hp) : Prop where
  dom : ∀ a, m.av a → H a ≠ none
  mu : match m.mu with
    | .no => True
    | .own p xs => H0 p = none ∧ m.av p ∧ ∃ vs, H p = some (.lst vs) ∧ RpA K m.av H vs xs
    | .deck p => m.av p ∧ ∃ ns : List Int, H p = some (.lst (ns.map V.int)) ∧ 2 ≤ ns.length ∧ ns.length ≤ 65
theorem MuOk.dkav {K : PySem.W.Frag} {H0 H : Hp} {m : Mm} (h : MuOk K H0 m H) : ∀ p, m.dk = some p → m.av p := by
  intro p e
  obtain ⟨av, mu⟩ := m
  cases mu with
  | no => cases e
  | own q xs => cases e
  | deck q =>
    cases e
    exact h.mu.1
/-- a heap that keeps all -/
theorem MuOk.keep {K : PySem.W.Frag} {H0 H H' : Hp} {m : Mm} (h : MuOk K H0 m H) (s : Same H H') : MuOk K H0 m H' := by
  refine ⟨fun a z q => ?_, ?_⟩
  · cases e : H a with
    | none => exact h.dom a z e
    | some o =>
      rw [s a o e] at q
      cases q
  · have hm := h.mu
    obtain ⟨av, mu⟩ := m
    cases mu with
    | no => trivial
    | own p xs =>
      obtain ⟨h1, h2, vs, h3, h4⟩ := hm
      exact ⟨h1, h2, vs, s _ _ h3, h4.kp (Kp.same (k := none) s) (fun _ z => nomatch z)⟩
    | deck p =>
      obtain ⟨h1, ns, h2, h3⟩ := hm
      exact ⟨h1, ns, s _ _ h2, h3⟩
theorem same_new {H : Hp} {p : Addr} {o : HO} (h : H p = none) : Same H (upd H p o) := fun a u e => by
  rw [upd_ne (ne_of_none e h)]
  exact e
theorem MuOk.new {K : PySem.W.Frag} {H0 H : Hp} {m : Mm} {p : Addr} {o : HO} (h : MuOk K H0 m H) (hp : H p = none) : MuOk K H0 m (upd H p o) := h.keep (same_new hp)
theorem MuOk.fresh {K : PySem.W.Frag} {H0 H : Hp} {m : Mm} {p : Addr} (h : MuOk K H0 m H) (hp : H p = none) : ¬ m.av p := fun z => h.dom p z hp
/-- a slot -/
inductive Sl where
  | no
  | im (d : PD)
  | mu
def SlOk (K : PySem.W.Frag) (m : Mm) (H : Hp) (o : Option V) : Sl → Prop
  | .no => True
  | .im d => ∃ v, o = some v ∧ Rp K m.av H v d
  | .mu => match m.mu with
    | .no => False
    | .own p _ => o = some (.ref p)
    | .deck p => o = some (.ref p)
structure Env' (K : PySem.W.Frag) (H0 : Hp) (av0 : Addr → Prop) (m : Mm) (σ : L2.St) (H : Hp) (ρ : List Sl) : Prop where
  fr : Kp m.dk H0 H
  sub : ∀ a, av0 a → m.av a
  dom0 : ∀ a, av0 a → H0 a ≠ none
  ok : MuOk K H0 m H
  len : σ.length = ρ.length
  at_ : ∀ (i : Nat) (s : Sl), ρ[i]? = some s → ∃ o, σ[i]? = some o ∧ SlOk K m H o s
theorem SlOk.kp {K : PySem.W.Frag} {m : Mm} {H H' : Hp} {o : Option V} {s : Sl} (k : Kp m.dk H H') (hk : ∀ p, m.dk = some p → m.av p) (h : SlOk K m H o s) : SlOk K m H' o s := by
  cases s with
  | no => trivial
  | im d =>
    obtain ⟨v, e, r⟩ := h
    exact ⟨v, e, r.kp k hk⟩
  | mu => exact h
theorem Env'.step {K : PySem.W.Frag} {H0 H H' : Hp} {av0 : Addr → Prop} {m : Mm} {σ : L2.St} {ρ : List Sl} (e : Env' K H0 av0 m σ H ρ) (k : Kp m.dk H H') (ok : MuOk K H0 m H') : Env' K H0 av0 m σ H' ρ :=
  ⟨e.fr.trans k, e.sub, e.dom0, ok, e.len, fun i s q => by
    obtain ⟨o, h1, h2⟩ := e.at_ i s q
    exact ⟨o, h1, h2.kp k e.ok.dkav⟩⟩
theorem Env'.set {K : PySem.W.Frag} {H0 H : Hp} {av0 : Addr → Prop} {m : Mm} {σ : L2.St} {ρ : List Sl} (e : Env' K H0 av0 m σ H ρ) {i : Nat} {v : V} {d : PD} (r : Rp K m.av H v d) : Env' K H0 av0 m (σ.set i (some v)) H (ρ.set i (.im d)) := by
  refine ⟨e.fr, e.sub, e.dom0, e.ok, by rw [List.length_set, List.length_set, e.len], fun j s q => ?_⟩
  by_cases hj : i = j
  · subst hj
    by_cases hl : i < ρ.length
    · rw [List.getElem?_set_self hl] at q
      cases q
      exact ⟨some v, List.getElem?_set_self (by rw [e.len]; exact hl), v, rfl, r⟩
    · rw [List.getElem?_eq_none (by rw [List.length_set]; omega)] at q
      cases q
  · rw [List.getElem?_set_ne hj] at q
    obtain ⟨o, h1, h2⟩ := e.at_ j s q
    exact ⟨o, by rw [List.getElem?_set_ne hj]; exact h1, h2⟩
end Tk
end
section
namespace Tk
open PySem PySem.Spec PyProof.Rows L2
structure WE (X : Cx) (e : Expr) (σ : L2.St) (H : Hp) (Q : VK) : Prop where
  run : ∀ (pins : List (Addr × Obj)) (s : Shared), Inv X pins σ H s → wpAny (model X.prog X.w) X.A (eval e X.env) (EP X pins σ Q) X.xe s
structure WA (X : Cx) (es : List Expr) (σ : L2.St) (H : Hp) (Q : List V → Hp → Prop) : Prop where
  run : ∀ (pos : Pos) (pins : List (Addr × Obj)) (s : Shared), Inv X pins σ H s → wpAny (model X.prog X.w) X.A (spliced (backTo pos (starEach es X.env))) (AP X pins σ Q) X.xe s
structure WT (X : Cx) (e : Expr) (σ : L2.St) (H : Hp) (Q : Bool → Hp → Prop) : Prop where
  run : ∀ (pins : List (Addr × Obj)) (s : Shared), Inv X pins σ H s → wpAny (model X.prog X.w) X.A (isTrue e X.env (eval e X.env)) (TP X pins σ Q) X.xe s
structure WW (X : Cx) (e : Expr) (σ : L2.St) (H : Hp) (Q : Bool → Hp → Prop) : Prop where
  run : ∀ (whole : Sem Value) (pins : List (Addr × Obj)) (s : Shared), Inv X pins σ H s → wpAny (model X.prog X.w) X.A (isTrue e X.env whole) (TP X pins σ Q) X.xe s
structure WS (X : Cx) (st : Stmt) (D : Ends) (σ : L2.St) (H : Hp) : Prop where
  run : ∀ (pins : List (Addr × Obj)) (s : Shared), Inv X pins σ H s → wpAny (model X.prog X.w) X.A (exec st X.env) (SP X pins D) X.xe s
structure WSs (X : Cx) (st : List Stmt) (D : Ends) (σ : L2.St) (H : Hp) : Prop where
  run : ∀ (pins : List (Addr × Obj)) (s : Shared), Inv X pins σ H s → wpAny (model X.prog X.w) X.A (execs st X.env) (SP X pins D) X.xe s
theorem pe_we {X : Cx} {e : Expr} : PE X e (WE X e) := ⟨fun pins s _ _ _ I h => h.run pins s I⟩
theorem pa_wa {X : Cx} {es : List Expr} : PA X es (WA X es) := ⟨fun pos pins s _ _ _ I h => h.run pos pins s I⟩
theorem pt_wt {X : Cx} {e : Expr} : PT X e (WT X e) := ⟨fun pins s _ _ _ I h => h.run pins s I⟩
theorem pw_ww {X : Cx} {e : Expr} : PW X e (WW X e) := ⟨fun wh pins s _ _ _ I h => h.run wh pins s I⟩
theorem ps_ws {X : Cx} {st : Stmt} : PS X st (WS X st) := ⟨fun pins s _ _ _ I h => h.run pins s I⟩
theorem pss_ws {X : Cx} {st : List Stmt} : PSs X st (WSs X st) := ⟨fun pins s _ _ _ I h => h.run pins s I⟩
theorem we_of {X : Cx} {e : Expr} {t : TE} {σ : L2.St} {H : Hp} {Q : VK} (h : PE X e t) (q : t σ H Q) : WE X e σ H Q := ⟨fun pins s I => h.run pins s σ H Q I q⟩
theorem wt_of {X : Cx} {e : Expr} {t : TT} {σ : L2.St} {H : Hp} {Q : Bool → Hp → Prop} (h : PT X e t) (q : t σ H Q) : WT X e σ H Q := ⟨fun pins s I => h.run pins s σ H Q I q⟩
theorem ww_of {X : Cx} {e : Expr} {t : TT} {σ : L2.St} {H : Hp} {Q : Bool → Hp → Prop} (h : PW X e t) (q : t σ H Q) : WW X e σ H Q := ⟨fun wh pins s I => h.run wh pins s σ H Q I q⟩
theorem wa_of {X : Cx} {es : List Expr} {t : TA} {σ : L2.St} {H : Hp} {Q : List V → Hp → Prop} (h : PA X es t) (q : t σ H Q) : WA X es σ H Q := ⟨fun pos pins s I => h.run pos pins s σ H Q I q⟩
theorem ws_of {X : Cx} {st : Stmt} {t : TS} {σ : L2.St} {H : Hp} {D : Ends} (h : PS X st t) (q : t D σ H) : WS X st D σ H := ⟨fun pins s I => h.run pins s σ H D I q⟩
theorem wss_of {X : Cx} {st : List Stmt} {t : TS} {σ : L2.St} {H : Hp} {D : Ends} (h : PSs X st t) (q : t D σ H) : WSs X st D σ H := ⟨fun pins s I => h.run pins s σ H D I q⟩

/-- what evaluates to data with P -/
abbrev KD (X : Cx) (H0 : Hp) (m : Mm) (H : Hp) (P : PD → Prop) (Q : VK) : Prop := ∀ v d H', Kp m.dk H H' → MuOk X.K H0 m H' → Rp X.K m.av H' v d → P d → Q v H'
def E (X : Cx) (m : Mm) (e : Expr) (ρ : List Sl) (P : PD → Prop) : Prop := ∀ H0 av0 σ H, Env' X.K H0 av0 m σ H ρ → ∀ Q : VK, KD X H0 m H P Q → WE X e σ H Q
/-- a new list -/
def EL (X : Cx) (m : Mm) (e : Expr) (ρ : List Sl) (P : List PD → Prop) : Prop := ∀ H0 av0 σ H, Env' X.K H0 av0 m σ H ρ → ∀ Q : VK,
  (∀ p vs ds H', H p = none → Kp m.dk H H' → MuOk X.K H0 m H' → H' p = some (.lst vs) → RpA X.K m.av H' vs ds → P ds → Q (.ref p) H') → WE X e σ H Q
def EA (X : Cx) (m : Mm) (es : List Expr) (ρ : List Sl) (P : List PD → Prop) : Prop := ∀ H0 av0 σ H, Env' X.K H0 av0 m σ H ρ → ∀ Q : List V → Hp → Prop,
  (∀ vs ds H', Kp m.dk H H' → MuOk X.K H0 m H' → RpA X.K m.av H' vs ds → vs.length = es.length → P ds → Q vs H') → WA X es σ H Q
def T (X : Cx) (m : Mm) (e : Expr) (ρ : List Sl) (b : Bool) : Prop := ∀ H0 av0 σ H, Env' X.K H0 av0 m σ H ρ → ∀ Q : Bool → Hp → Prop, (∀ H', Kp m.dk H H' → MuOk X.K H0 m H' → Q b H') → WT X e σ H Q
def TW (X : Cx) (m : Mm) (e : Expr) (ρ : List Sl) (b : Bool) : Prop := ∀ H0 av0 σ H, Env' X.K H0 av0 m σ H ρ → ∀ Q : Bool → Hp → Prop, (∀ H', Kp m.dk H H' → MuOk X.K H0 m H' → Q b H') → WW X e σ H Q
section
variable {X : Cx} {m : Mm} {e a b : Expr} {es : List Expr} {ρ : List Sl} {P : PD → Prop} {pos : Pos}
theorem E.mono {P' : PD → Prop} (h : E X m e ρ P) (q : ∀ d, P d → P' d) : E X m e ρ P' := fun H0 av0 σ H en Q k => h H0 av0 σ H en Q fun v d H' k1 k2 k3 k4 => k v d H' k1 k2 k3 (q d k4)
theorem E.is {d d' : PD} (h : E X m e ρ (· = d)) (q : d = d') : E X m e ρ (· = d') := by rw [← q]; exact h
theorem T.is {b b' : Bool} (h : T X m e ρ b) (q : b = b') : T X m e ρ b' := by rw [← q]; exact h
theorem e_var (i : Nat) {d : PD} {x : Str} (hρ : ρ[i]? = some (.im d) := by rfl) (hN : X.N[i]? = some x := by rfl) (hv : Vis X.env.scope x := by first | exact Or.inl rfl | exact Or.inr (Or.inl rfl) | exact Or.inr (Or.inr rfl)) (hd : (x == ("__debug__" : Str)) = false := by decide)
    (hcd : (x == ("__classdict__" : Str)) = false := by decide) : E X m (.Name x pos) ρ (· = d) := fun H0 av0 σ H en Q k => by
  obtain ⟨o, h1, v, rfl, r⟩ := en.at_ i _ hρ
  exact we_of (pe_var hN hv hd hcd) ⟨v, h1, k v d H (Kp.refl _ _) en.ok r rfl⟩
theorem e_c {v : V} {d : PD} (h : PE X e (tC v)) (r : ∀ av H, Rp X.K av H v d) : E X m e ρ (· = d) := fun H0 av0 σ H en Q k =>
  we_of h (k v d H (Kp.refl _ _) en.ok (r _ _) rfl)
theorem e_int {i j} : E X m (.Constant (.int i) j pos) ρ (· = .int i) := e_c pe_int fun _ _ => .int i
theorem e_bl {b j} : E X m (.Constant (.bool b) j pos) ρ (· = .bool b) := e_c pe_bl fun _ _ => .bl b
theorem e_non {j} : E X m (.Constant .none j pos) ρ (· = .none) := e_c pe_non fun _ _ => .non
theorem e_str {x j} : E X m (.Constant (.str x) j pos) ρ (· = .str x) := e_c pe_str fun _ _ => .str x
theorem ea_nil : EA X m [] ρ (· = []) := fun H0 av0 σ H en Q k => wa_of pa_nil (k [] [] H (Kp.refl _ _) en.ok .nil rfl rfl)
theorem ea_cons {R : PD → List PD → Prop} (ha : E X m e ρ P) (hr : ∀ d, P d → EA X m es ρ (R d)) (hs : starEach (e :: es) X.env = (false, eval e X.env) :: starEach es X.env := by rfl) : EA X m (e :: es) ρ (fun ds => ∃ d r, ds = d :: r ∧ P d ∧ R d r) :=
  fun H0 av0 σ H en Q k => wa_of (pa_cons pe_we pa_wa hs) (ha H0 av0 σ H en _ fun v d H1 k1 o1 r1 p1 =>
    hr d p1 H0 av0 σ H1 (en.step k1 o1) _ fun vs ds H2 k2 o2 r2 l2 p2 => k (v :: vs) (d :: ds) H2 (k1.trans k2) o2 (.cons (r1.kp k2 o1.dkav) r2) (by rw [List.length_cons, List.length_cons, l2]) ⟨d, ds, rfl, p1, p2⟩)
theorem ea_c {d : PD} {r : List PD} (ha : E X m e ρ (· = d)) (hr : EA X m es ρ (· = r)) (hs : starEach (e :: es) X.env = (false, eval e X.env) :: starEach es X.env := by rfl) : EA X m (e :: es) ρ (· = d :: r) :=
  fun H0 av0 σ H en Q k => wa_of (pa_cons pe_we pa_wa hs) (ha H0 av0 σ H en _ fun v d' H1 k1 o1 r1 p1 =>
    hr H0 av0 σ H1 (en.step k1 o1) _ fun vs ds H2 k2 o2 r2 l2 p2 => k (v :: vs) (d' :: ds) H2 (k1.trans k2) o2 (.cons (r1.kp k2 o1.dkav) r2) (by rw [List.length_cons, List.length_cons, l2]) (by rw [p1, p2]))
theorem EA.mono {P P' : List PD → Prop} (h : EA X m es ρ P) (q : ∀ d, P d → P' d) : EA X m es ρ P' := fun H0 av0 σ H en Q k => h H0 av0 σ H en Q fun v d H' k1 k2 k3 k5 k4 => k v d H' k1 k2 k3 k5 (q d k4)
theorem sz_of {n : Nat} (h : n ≤ 1000000) : n ≤ sizeLine := Nat.le_trans h (by decide)
theorem e_tupP {P : List PD → Prop} {k' : Nat} (h : EA X m es ρ P) (hl : es.length ≤ 1000000 := by decide) : E X m (.Tuple es k' pos) ρ (fun d => ∃ ds, d = .tuple ds ∧ P ds) := fun H0 av0 σ H en Q k =>
  we_of (pe_tup pa_wa) (h H0 av0 σ H en _ fun vs ds H1 k1 o1 r1 l1 p1 => ⟨sz_of (by rw [l1]; exact hl), fun p hp =>
    k _ _ _ (k1.trans (Kp.new hp)) (o1.new hp) (.tup (SqT.of upd_same) (r1.kp (Kp.new (k := m.dk) hp) o1.dkav)) ⟨ds, rfl, p1⟩⟩)
theorem e_tup {ds : List PD} {k' : Nat} (h : EA X m es ρ (· = ds)) (hl : es.length ≤ 1000000 := by decide) : E X m (.Tuple es k' pos) ρ (· = .tuple ds) := (e_tupP h hl).mono fun d ⟨ds', e, q⟩ => by rw [e, q]
theorem el_lst {P : List PD → Prop} (h : EA X m es ρ P) (hl : es.length ≤ 1000000 := by decide) : EL X m (.List es pos) ρ P := fun H0 av0 σ H en Q k =>
  we_of (pe_lst pa_wa) (h H0 av0 σ H en _ fun vs ds H1 k1 o1 r1 l1 p1 => ⟨sz_of (by rw [l1]; exact hl), fun p hp =>
    k p vs ds _ (by
      cases e : H p with
      | none => rfl
      | some o =>
        by_cases z : m.dk = some p
        · exact absurd hp (o1.dom p (o1.dkav p z))
        · rw [k1 p o e (fun q => absurd q z)] at hp
          cases hp) (k1.trans (Kp.new hp)) (o1.new hp) upd_same (r1.kp (Kp.new (k := m.dk) hp) o1.dkav) p1⟩)
/-- a new list is data -/
theorem EL.toE {P : List PD → Prop} (h : EL X m e ρ P) : E X m e ρ (fun d => ∃ ds, d = .list ds ∧ P ds) := fun H0 av0 σ H en Q k =>
  h H0 av0 σ H en Q fun p vs ds H' hp k1 o1 h1 r1 p1 => k _ _ H' k1 o1 (.lst h1 (fun z => en.ok.dom p z hp) r1) ⟨ds, rfl, p1⟩
theorem EL.im {ds : List PD} (h : EL X m e ρ (· = ds)) : E X m e ρ (· = .list ds) := h.toE.mono fun d ⟨ds', e, q⟩ => by rw [e, q]

/-! ### operators -/
def R2D (X : Cx) (m : Mm) (r : R2) (x y : PD) (P : PD → Prop) : Prop := ∀ H0 vx vy H, MuOk X.K H0 m H → Rp X.K m.av H vx x → Rp X.K m.av H vy y → ∀ Q : VK, KD X H0 m H P Q → r vx vy H Q
theorem e_binP {op : Operator} {r : R2} {Pa : PD → Prop} {Pb : PD → PD → Prop} (ho : OpR X (binaryOp op) r) (ha : E X m a ρ Pa) (hb : ∀ x, Pa x → E X m b ρ (Pb x)) (hr : ∀ x y, Pa x → Pb x y → R2D X m r x y P) : E X m (.BinOp a op b pos) ρ P := fun H0 av0 σ H en Q k =>
  we_of (pe_op ho pe_we pe_we) (ha H0 av0 σ H en _ fun v d H1 k1 o1 r1 p1 => hb d p1 H0 av0 σ H1 (en.step k1 o1) _ fun v2 d2 H2 k2 o2 r2 p2 =>
    hr d d2 p1 p2 H0 v v2 H2 o2 (r1.kp k2 o1.dkav) r2 Q fun v3 d3 H3 k3 o3 r3 p3 => k v3 d3 H3 ((k1.trans k2).trans k3) o3 r3 p3)
theorem e_bin {op : Operator} {r : R2} {x y : PD} (ho : OpR X (binaryOp op) r) (ha : E X m a ρ (· = x)) (hb : E X m b ρ (· = y)) (hr : R2D X m r x y P) : E X m (.BinOp a op b pos) ρ P :=
  e_binP (Pb := fun _ z => z = y) ho ha (fun _ _ => hb) (fun x' y' hx hy => by rw [hx, hy]; exact hr)
theorem e_cmp {op : CmpOp} {r : R2} {x y : PD} (ho : OpR X (compareOp op) r) (ha : E X m a ρ (· = x)) (hb : E X m b ρ (· = y)) (hr : R2D X m r x y P) (hm : behindInMarks op b = false := by first | exact nobehind _ (by decide) (by decide) | rfl) : E X m (.Compare a [op] [b] pos) ρ P := fun H0 av0 σ H en Q k =>
  we_of (pe_cmpR ho pe_we pe_we hm) (ha H0 av0 σ H en _ fun v d H1 k1 o1 r1 p1 => hb H0 av0 σ H1 (en.step k1 o1) _ fun v2 d2 H2 k2 o2 r2 p2 => by
    subst p1 p2
    exact hr H0 v v2 H2 o2 (r1.kp k2 o1.dkav) r2 Q fun v3 d3 H3 k3 o3 r3 p3 => k v3 d3 H3 ((k1.trans k2).trans k3) o3 r3 p3)
/-- P-general on the left (a drawn number) -/
theorem e_cmpP {op : CmpOp} {r : R2} {Pa : PD → Prop} {y : PD} (ho : OpR X (compareOp op) r) (ha : E X m a ρ Pa) (hb : E X m b ρ (· = y)) (hr : ∀ x, Pa x → R2D X m r x y P) (hm : behindInMarks op b = false := by first | exact nobehind _ (by decide) (by decide) | rfl) : E X m (.Compare a [op] [b] pos) ρ P := fun H0 av0 σ H en Q k =>
  we_of (pe_cmpR ho pe_we pe_we hm) (ha H0 av0 σ H en _ fun v d H1 k1 o1 r1 p1 => hb H0 av0 σ H1 (en.step k1 o1) _ fun v2 d2 H2 k2 o2 r2 p2 => by
    subst p2
    exact hr _ p1 H0 v v2 H2 o2 (r1.kp k2 o1.dkav) r2 Q fun v3 d3 H3 k3 o3 r3 p3 => k v3 d3 H3 ((k1.trans k2).trans k3) o3 r3 p3)
/-- a pure step of values -/
theorem r2_val {r : R2} {x y z : PD} {vz : V} (hz : ∀ av H, Rp X.K av H vz z) (h : ∀ vx vy H, (∃ av, Rp X.K av H vx x) → (∃ av, Rp X.K av H vy y) → ∀ Q : VK, Q vz H → r vx vy H Q) : R2D X m r x y (· = z) := fun H0 vx vy H o rx ry Q k =>
  h vx vy H ⟨_, rx⟩ ⟨_, ry⟩ Q (k vz z H (Kp.refl _ _) o (hz _ _) rfl)
theorem r2_I0 {g : Int → Int → V} {i j : Int} {z : PD} (hz : ∀ av H, Rp X.K av H (g i j) z) : R2D X m (rI0 g) (.int i) (.int j) (· = z) := r2_val hz fun vx vy H hx hy Q q => by
  obtain ⟨_, hx⟩ := hx
  obtain ⟨_, hy⟩ := hy
  cases hx
  cases hy
  exact ⟨i, j, rfl, rfl, q⟩
theorem r2_I {C : Int → Int → Prop} {g : Int → Int → V} {i j : Int} {z : PD} (hc : C i j) (hz : ∀ av H, Rp X.K av H (g i j) z) : R2D X m (rI C g) (.int i) (.int j) (· = z) := r2_val hz fun vx vy H hx hy Q q => by
  obtain ⟨_, hx⟩ := hx
  obtain ⟨_, hy⟩ := hy
  cases hx
  cases hy
  exact ⟨i, j, rfl, rfl, hc, q⟩
theorem e_add {i j : Int} (ha : E X m a ρ (· = .int i)) (hb : E X m b ρ (· = .int j)) : E X m (.BinOp a .Add b pos) ρ (· = .int (i + j)) := e_bin op_add ha hb (r2_I0 fun _ _ => .int _)
theorem e_sub {i j : Int} (ha : E X m a ρ (· = .int i)) (hb : E X m b ρ (· = .int j)) : E X m (.BinOp a .Sub b pos) ρ (· = .int (i - j)) := e_bin op_sub ha hb (r2_I0 fun _ _ => .int _)
theorem e_mul {i j : Int} (hc : CMul i j) (ha : E X m a ρ (· = .int i)) (hb : E X m b ρ (· = .int j)) : E X m (.BinOp a .Mult b pos) ρ (· = .int (i * j)) := e_bin op_mul ha hb (r2_I hc fun _ _ => .int _)
theorem e_mod {i j : Int} (hc : 0 < j) (ha : E X m a ρ (· = .int i)) (hb : E X m b ρ (· = .int j)) : E X m (.BinOp a .Mod b pos) ρ (· = .int (i % j)) := e_bin op_mod ha hb (r2_I (C := fun _ j => 0 < j) (g := fun i j => .int (i % j)) hc fun _ _ => .int _)
theorem e_fdiv {i j : Int} (hc : CDiv i j) (ha : E X m a ρ (· = .int i)) (hb : E X m b ρ (· = .int j)) : E X m (.BinOp a .FloorDiv b pos) ρ (· = .int (i / j)) := e_bin op_fdiv ha hb (r2_I hc fun _ _ => .int _)
theorem r2_catA {x y : List PD} (hl : x.length + y.length ≤ 1000000) : R2D X m (rCatA X.K) (.tuple x) (.tuple y) (· = .tuple (x ++ y)) := fun H0 vx vy H o rx ry Q k => by
  cases rx with
  | tup h1 r1 =>
    rename_i a1 xs1
    cases ry with
    | tup h2 r2 =>
      rename_i a2 xs2
      refine ⟨_, _, xs1, xs2, rfl, rfl, h1, h2, sz_of (by rw [r1.length, r2.length]; exact hl), fun e => ?_, fun _ e => ?_, fun _ _ p hp => ?_⟩
      · have e1 : x = [] := by have := r1.length; rw [e] at this; exact List.eq_nil_of_length_eq_zero (by simpa using this.symm)
        exact k _ _ H (Kp.refl _ _) o (.tup h2 r2) (by rw [e1]; rfl)
      · have e1 : y = [] := by have := r2.length; rw [e] at this; exact List.eq_nil_of_length_eq_zero (by simpa using this.symm)
        exact k _ _ H (Kp.refl _ _) o (.tup h1 r1) (by rw [e1, List.append_nil])
      · exact k _ _ _ (Kp.new hp) (o.new hp) (.tup (SqT.of upd_same) ((r1.append r2).kp (Kp.new (k := m.dk) hp) o.dkav)) rfl
theorem e_cat {x y : List PD} (ha : E X m a ρ (· = .tuple x)) (hb : E X m b ρ (· = .tuple y)) (hl : x.length + y.length ≤ 1000000) : E X m (.BinOp a .Add b pos) ρ (· = .tuple (x ++ y)) := e_bin op_catA ha hb (r2_catA hl)
theorem r2_addS {x y : Str} (hl : x.length + y.length ≤ 1000000) : R2D X m (fun x y H Q => ∃ i j, x = .str i ∧ y = .str j ∧ i.length + j.length ≤ sizeLine ∧ Q (.str (i ++ j)) H) (.str x) (.str y) (· = .str (x ++ y)) := r2_val (fun _ _ => .str _) fun vx vy H hx hy Q q => by
  obtain ⟨_, hx⟩ := hx
  obtain ⟨_, hy⟩ := hy
  cases hx
  cases hy
  exact ⟨x, y, rfl, rfl, sz_of hl, q⟩
theorem e_catS {x y : Str} (ha : E X m a ρ (· = .str x)) (hb : E X m b ρ (· = .str y)) (hl : x.length + y.length ≤ 1000000) : E X m (.BinOp a .Add b pos) ρ (· = .str (x ++ y)) := e_bin op_add_str ha hb (r2_addS hl)
theorem e_lt {i j : Int} (ha : E X m a ρ (· = .int i)) (hb : E X m b ρ (· = .int j)) : E X m (.Compare a [.Lt] [b] pos) ρ (· = .bool (decide (i < j))) := e_cmp op_lt ha hb (r2_I0 fun _ _ => .bl _)
theorem e_le {i j : Int} (ha : E X m a ρ (· = .int i)) (hb : E X m b ρ (· = .int j)) : E X m (.Compare a [.LtE] [b] pos) ρ (· = .bool (decide (i ≤ j))) := e_cmp op_le ha hb (r2_I0 fun _ _ => .bl _)
theorem e_gt {i j : Int} (ha : E X m a ρ (· = .int i)) (hb : E X m b ρ (· = .int j)) : E X m (.Compare a [.Gt] [b] pos) ρ (· = .bool (decide (j < i))) := e_cmp op_gt ha hb (r2_I0 fun _ _ => .bl _)
theorem e_ge {i j : Int} (ha : E X m a ρ (· = .int i)) (hb : E X m b ρ (· = .int j)) : E X m (.Compare a [.GtE] [b] pos) ρ (· = .bool (decide (j ≤ i))) := e_cmp op_ge ha hb (r2_I0 fun _ _ => .bl _)
end
end Tk
end
section
namespace Tk
open PySem PySem.Spec PyProof.Rows L2
/-! ### data that == tells apart: ints, texts, tuples of these -/
def good : Nat → PD → Prop
  | 0, d => match d with
    | .none => True
    | .int _ => True
    | .str x => PyData.strOk x = true
    | _ => False
  | n + 1, d => match d with
    | .none => True
    | .int _ => True
    | .str x => PyData.strOk x = true
    | .tuple ds => ∀ d ∈ ds, good n d
    | _ => False
theorem good_all : ∀ (n : Nat) (ds : List PD), (∀ d ∈ ds, d.canLay0 = true ∧ d.depth ≤ n) → PyData.canLayAll0 ds = true ∧ PyData.depthAll ds ≤ n
  | n, [], _ => ⟨rfl, Nat.zero_le _⟩
  | n, d :: ds, h => by
    obtain ⟨h1, h2⟩ := h d List.mem_cons_self
    obtain ⟨h3, h4⟩ := good_all n ds fun x hx => h x (List.mem_cons_of_mem _ hx)
    refine ⟨by rw [PyData.canLayAll0, h1, h3]; rfl, ?_⟩
    rw [PyData.depthAll]
    exact Nat.max_le.mpr ⟨h2, h4⟩
theorem good_shape : ∀ (n : Nat) (d : PD), good n d → d.canLay0 = true ∧ d.depth ≤ n
  | 0, .none, _ => ⟨by simp only [PyData.canLay0], by simp only [PyData.depth]; exact Nat.le_refl _⟩
  | 0, .int _, _ => ⟨by simp only [PyData.canLay0], by simp only [PyData.depth]; exact Nat.le_refl _⟩
  | 0, .str x, h => ⟨by simp only [PyData.canLay0]; exact h, by simp only [PyData.depth]; exact Nat.le_refl _⟩
  | 0, .bool _, h => h.elim
  | 0, .list _, h => h.elim
  | 0, .tuple _, h => h.elim
  | 0, .dict _, h => h.elim
  | n + 1, .none, _ => ⟨by simp only [PyData.canLay0], by simp only [PyData.depth]; exact Nat.zero_le _⟩
  | n + 1, .int _, _ => ⟨by simp only [PyData.canLay0], by simp only [PyData.depth]; exact Nat.zero_le _⟩
  | n + 1, .str x, h => ⟨by simp only [PyData.canLay0]; exact h, by simp only [PyData.depth]; exact Nat.zero_le _⟩
  | n + 1, .bool _, h => h.elim
  | n + 1, .list _, h => h.elim
  | n + 1, .tuple ds, h => by
    obtain ⟨h1, h2⟩ := good_all n ds fun d hd => good_shape n d (h d hd)
    exact ⟨by simp only [PyData.canLay0]; exact h1, by simp only [PyData.depth]; exact Nat.succ_le_succ h2⟩
  | n + 1, .dict _, h => h.elim
theorem good_shaped {n : Nat} {d : PD} (h : good n d) (hn : n ≤ 64 := by decide) : SeqAt.shaped d = true := by
  obtain ⟨h1, h2⟩ := good_shape n d h
  unfold SeqAt.shaped
  rw [h1, decide_eq_true (Nat.le_trans h2 hn)]
  rfl
theorem eqvAll_good {n k : Nat} (ih : ∀ d e : PD, good n d → good k e → (PyData.eqv d e = true ↔ d = e)) : ∀ ds es : List PD, (∀ d ∈ ds, good n d) → (∀ d ∈ es, good k d) → (PyData.eqvAll ds es = true ↔ ds = es)
  | [], [], _, _ => by simp [PyData.eqvAll]
  | [], _ :: _, _, _ => by simp [PyData.eqvAll]
  | _ :: _, [], _, _ => by simp [PyData.eqvAll]
  | d :: ds, e :: es, h, q => by
    rw [PyData.eqvAll, Bool.and_eq_true, ih d e (h d List.mem_cons_self) (q e List.mem_cons_self), eqvAll_good ih ds es (fun x hx => h x (List.mem_cons_of_mem _ hx)) (fun x hx => q x (List.mem_cons_of_mem _ hx)), List.cons.injEq]
theorem eqv_good : ∀ (n k : Nat) (d e : PD), good n d → good k e → (PyData.eqv d e = true ↔ d = e)
  | n, k, .bool _, _, h, _ => by cases n <;> exact h.elim
  | n, k, .list _, _, h, _ => by cases n <;> exact h.elim
  | n, k, .dict _, _, h, _ => by cases n <;> exact h.elim
  | n, k, _, .bool _, _, h => by cases k <;> exact h.elim
  | n, k, _, .list _, _, h => by cases k <;> exact h.elim
  | n, k, _, .dict _, _, h => by cases k <;> exact h.elim
  | 0, k, .tuple _, _, h, _ => h.elim
  | n, 0, _, .tuple _, _, h => h.elim
  | n + 1, k + 1, .tuple ds, .tuple es, h, q => by
    simp only [PyData.eqv, PyData.tuple.injEq]
    exact eqvAll_good (eqv_good n k) ds es h q
  | n, k, .none, .none, _, _ => by simp [PyData.eqv]
  | n, k, .none, .int _, _, _ => by simp [PyData.eqv]
  | n, k, .none, .str _, _, _ => by simp [PyData.eqv]
  | n, k, .none, .tuple _, _, _ => by simp [PyData.eqv]
  | n, k, .int _, .none, _, _ => by simp [PyData.eqv]
  | n, k, .int _, .int _, _, _ => by simp [PyData.eqv]
  | n, k, .int _, .str _, _, _ => by simp [PyData.eqv]
  | n, k, .int _, .tuple _, _, _ => by simp [PyData.eqv]
  | n, k, .str _, .none, _, _ => by simp [PyData.eqv]
  | n, k, .str _, .int _, _, _ => by simp [PyData.eqv]
  | n, k, .str _, .str _, _, _ => by simp [PyData.eqv]
  | n, k, .str _, .tuple _, _, _ => by simp [PyData.eqv]
  | n, k, .tuple _, .none, _, _ => by simp [PyData.eqv]
  | n, k, .tuple _, .int _, _, _ => by simp [PyData.eqv]
  | n, k, .tuple _, .str _, _, _ => by simp [PyData.eqv]
theorem goodA_dp {K : PySem.W.Frag} {av : Addr → Prop} {H : Hp} {n : Nat} (ih : ∀ d v, good n d → Rp K av H v d → Dp K H v d) : ∀ (ds : List PD) (vs : List V), (∀ d ∈ ds, good n d) → RpA K av H vs ds → DpAll K H vs ds
  | [], _, _, h => by cases h; exact .nil
  | d :: ds, _, g, h => by
    cases h with
    | cons h1 h2 => exact .cons (ih d _ (g d List.mem_cons_self) h1) (goodA_dp ih ds _ (fun x hx => g x (List.mem_cons_of_mem _ hx)) h2)
theorem good_dp {K : PySem.W.Frag} {av : Addr → Prop} {H : Hp} : ∀ (n : Nat) (d : PD) (v : V), good n d → Rp K av H v d → Dp K H v d
  | 0, .none, _, _, h => by cases h; exact .non
  | 0, .int i, _, _, h => by cases h; exact .int i
  | 0, .str x, _, _, h => by cases h; exact .str x
  | 0, .bool _, _, g, _ => g.elim
  | 0, .list _, _, g, _ => g.elim
  | 0, .tuple _, _, g, _ => g.elim
  | 0, .dict _, _, g, _ => g.elim
  | n + 1, .none, _, _, h => by cases h; exact .non
  | n + 1, .int i, _, _, h => by cases h; exact .int i
  | n + 1, .str x, _, _, h => by cases h; exact .str x
  | n + 1, .bool _, _, g, _ => g.elim
  | n + 1, .list _, _, g, _ => g.elim
  | n + 1, .dict _, _, g, _ => g.elim
  | n + 1, .tuple ds, _, g, h => by
    cases h with
    | tup h1 h3 => exact .tup h1 (goodA_dp (good_dp n) ds _ g h3)
section
variable {X : Cx} {m : Mm} {e a b : Expr} {es : List Expr} {ρ : List Sl} {P : PD → Prop} {pos p : Pos} {k : Nat}
theorem r2_eqD {x y : PD} {n n' : Nat} {c : Bool} (gx : good n x) (gy : good n' y) (hn : n ≤ 64) (hn' : n' ≤ 64) (hc : x = y ↔ c = true) : R2D X m (rEqD X.K) x y (· = .bool c) := fun H0 vx vy H o rx ry Q k => by
  have ec : PyData.eqv x y = c := by
    have h1 := eqv_good n n' x y gx gy
    cases c with
    | true => exact h1.mpr (hc.mpr rfl)
    | false =>
      cases q : PyData.eqv x y with
      | false => rfl
      | true => exact (hc.mp (h1.mp q)).symm
  refine ⟨x, y, good_dp n x _ gx rx, good_dp n' y _ gy ry, good_shaped gx hn, good_shaped gy hn', ?_⟩
  rw [ec]
  exact k _ _ H (Kp.refl _ _) o (.bl c) rfl
theorem r2_neD {x y : PD} {n n' : Nat} {c : Bool} (gx : good n x) (gy : good n' y) (hn : n ≤ 64) (hn' : n' ≤ 64) (hc : x = y ↔ c = true) : R2D X m (rNeD X.K) x y (· = .bool (!c)) := fun H0 vx vy H o rx ry Q k => by
  have ec : PyData.eqv x y = c := by
    have h1 := eqv_good n n' x y gx gy
    cases c with
    | true => exact h1.mpr (hc.mpr rfl)
    | false =>
      cases q : PyData.eqv x y with
      | false => rfl
      | true => exact (hc.mp (h1.mp q)).symm
  refine ⟨x, y, good_dp n x _ gx rx, good_dp n' y _ gy ry, good_shaped gx hn, good_shaped gy hn', ?_⟩
  rw [ec]
  exact k _ _ H (Kp.refl _ _) o (.bl (!c)) rfl
theorem e_eq {x y : PD} {n n' : Nat} {c : Bool} {j : Nat} (hr : Room j X.A) (ha : E X m a ρ (· = x)) (hb : E X m b ρ (· = y)) (hc : x = y ↔ c = true) (gx : good n x) (gy : good n' y) (hn : n ≤ 64 := by decide) (hn' : n' ≤ 64 := by decide) : E X m (.Compare a [.Eq] [b] pos) ρ (· = .bool c) :=
  e_cmp (op_eqD hr.units) ha hb (r2_eqD gx gy hn hn' hc)
theorem e_ne {x y : PD} {n n' : Nat} {c : Bool} {j : Nat} (hr : Room j X.A) (ha : E X m a ρ (· = x)) (hb : E X m b ρ (· = y)) (hc : x = y ↔ c = true) (gx : good n x) (gy : good n' y) (hn : n ≤ 64 := by decide) (hn' : n' ≤ 64 := by decide) : E X m (.Compare a [.NotEq] [b] pos) ρ (· = .bool (!c)) :=
  e_cmp (op_neD hr.units) ha hb (r2_neD gx gy hn hn' hc)
theorem e_eqI {i j : Int} (ha : E X m a ρ (· = .int i)) (hb : E X m b ρ (· = .int j)) : E X m (.Compare a [.Eq] [b] pos) ρ (· = .bool (decide (i = j))) := e_cmp op_eq ha hb (r2_val (vz := .bl (decide (i = j))) (fun _ _ => .bl _) fun vx vy H hx hy Q q => by
  obtain ⟨_, hx⟩ := hx
  obtain ⟨_, hy⟩ := hy
  cases hx
  cases hy
  refine ⟨rfl, ?_⟩
  have e1 : decide (V.int i = V.int j) = decide (i = j) := decide_eq_decide.mpr (by rw [V.int.injEq])
  rw [e1]
  exact q)
theorem e_neI {i j : Int} (ha : E X m a ρ (· = .int i)) (hb : E X m b ρ (· = .int j)) : E X m (.Compare a [.NotEq] [b] pos) ρ (· = .bool (!decide (i = j))) := e_cmp op_ne ha hb (r2_val (vz := .bl (!decide (i = j))) (fun _ _ => .bl _) fun vx vy H hx hy Q q => by
  obtain ⟨_, hx⟩ := hx
  obtain ⟨_, hy⟩ := hy
  cases hx
  cases hy
  refine ⟨rfl, ?_⟩
  have e1 : decide (V.int i = V.int j) = decide (i = j) := decide_eq_decide.mpr (by rw [V.int.injEq])
  rw [e1]
  exact q)
theorem e_eqS {i j : Str} (ha : E X m a ρ (· = .str i)) (hb : E X m b ρ (· = .str j)) : E X m (.Compare a [.Eq] [b] pos) ρ (· = .bool (decide (i = j))) := e_cmp op_eq ha hb (r2_val (vz := .bl (decide (i = j))) (fun _ _ => .bl _) fun vx vy H hx hy Q q => by
  obtain ⟨_, hx⟩ := hx
  obtain ⟨_, hy⟩ := hy
  cases hx
  cases hy
  refine ⟨rfl, ?_⟩
  have e1 : decide (V.str i = V.str j) = decide (i = j) := decide_eq_decide.mpr (by rw [V.str.injEq])
  rw [e1]
  exact q)
theorem e_neS {i j : Str} (ha : E X m a ρ (· = .str i)) (hb : E X m b ρ (· = .str j)) : E X m (.Compare a [.NotEq] [b] pos) ρ (· = .bool (!decide (i = j))) := e_cmp op_ne ha hb (r2_val (vz := .bl (!decide (i = j))) (fun _ _ => .bl _) fun vx vy H hx hy Q q => by
  obtain ⟨_, hx⟩ := hx
  obtain ⟨_, hy⟩ := hy
  cases hx
  cases hy
  refine ⟨rfl, ?_⟩
  have e1 : decide (V.str i = V.str j) = decide (i = j) := decide_eq_decide.mpr (by rw [V.str.injEq])
  rw [e1]
  exact q)
/-- x is None, is not None; is True, is False -/
def isNone : PD → Bool
  | .none => true
  | _ => false
theorem rp_none {K : PySem.W.Frag} {av : Addr → Prop} {H : Hp} {v : V} {d : PD} (h : Rp K av H v d) : decide (v = .non) = isNone d := by
  cases h <;> first | rfl | exact decide_eq_false (fun z => nomatch z)
theorem e_isN {x : PD} (ha : E X m a ρ (· = x)) (hb : E X m b ρ (· = .none)) : E X m (.Compare a [.Is] [b] pos) ρ (· = .bool (isNone x)) := e_cmp op_isN ha hb (r2_val (vz := .bl (isNone x)) (fun _ _ => .bl _) fun vx vy H hx hy Q q => by
  obtain ⟨_, hx⟩ := hx
  obtain ⟨_, hy⟩ := hy
  have e1 := rp_none hx
  cases hy
  refine ⟨rfl, ?_⟩
  rw [e1]
  exact q)
theorem e_notN {x : PD} (ha : E X m a ρ (· = x)) (hb : E X m b ρ (· = .none)) : E X m (.Compare a [.IsNot] [b] pos) ρ (· = .bool (!isNone x)) := e_cmp op_notN ha hb (r2_val (vz := .bl (!isNone x)) (fun _ _ => .bl _) fun vx vy H hx hy Q q => by
  obtain ⟨_, hx⟩ := hx
  obtain ⟨_, hy⟩ := hy
  have e1 := rp_none hx
  cases hy
  refine ⟨rfl, ?_⟩
  rw [e1]
  exact q)
theorem e_isB {x y : Bool} (ha : E X m a ρ (· = .bool x)) (hb : E X m b ρ (· = .bool y)) : E X m (.Compare a [.Is] [b] pos) ρ (· = .bool (decide (x = y))) := e_cmp op_isBl ha hb (r2_val (vz := .bl (decide (x = y))) (fun _ _ => .bl _) fun vx vy H hx hy Q q => by
  obtain ⟨_, hx⟩ := hx
  obtain ⟨_, hy⟩ := hy
  cases hx
  cases hy
  exact ⟨x, y, rfl, rfl, q⟩)
theorem e_notB {x y : Bool} (ha : E X m a ρ (· = .bool x)) (hb : E X m b ρ (· = .bool y)) : E X m (.Compare a [.IsNot] [b] pos) ρ (· = .bool (!decide (x = y))) := e_cmp op_notBl ha hb (r2_val (vz := .bl (!decide (x = y))) (fun _ _ => .bl _) fun vx vy H hx hy Q q => by
  obtain ⟨_, hx⟩ := hx
  obtain ⟨_, hy⟩ := hy
  cases hx
  cases hy
  exact ⟨x, y, rfl, rfl, q⟩)
/-- i not in a tuple of ints -/
theorem inV_int (i : Int) : ∀ ns : List Int, inV (.int i) (ns.map V.int) = decide (i ∈ ns)
  | [] => by simp [inV]
  | n :: ns => by
    have ih := inV_int i ns
    unfold inV at ih ⊢
    rw [List.map_cons, List.any_cons, ih]
    by_cases h : n = i
    · subst h
      simp [eqV]
    · have h' : ¬ i = n := fun z => h z.symm
      simp [eqV, h, h']
theorem flat_ints (ns : List Int) : (ns.map V.int).all flatV = true := by
  rw [List.all_eq_true]
  intro x hx
  obtain ⟨n, _, rfl⟩ := List.mem_map.mp hx
  rfl
theorem e_notInI {i : Int} {ns : List Int} (ha : E X m a ρ (· = .int i)) (hb : E X m b ρ (· = .tuple (ns.map .int))) (hm : behindInMarks .NotIn b = false := by rfl) : E X m (.Compare a [.NotIn] [b] pos) ρ (· = .bool (!decide (i ∈ ns))) := e_cmp op_notIn_seq ha hb (fun H0 vx vy H o rx ry Q k => by
  cases rx
  cases ry with
  | tup h1 r1 =>
    rw [r1.ints] at h1
    refine ⟨_, _, rfl, .inr h1, rfl, flat_ints ns, ?_⟩
    have := k (.bl (!decide (i ∈ ns))) _ H (Kp.refl _ _) o (.bl _) rfl
    rw [← inV_int] at this
    exact this) hm
theorem inV_str (i : Str) : ∀ ns : List Str, inV (.str i) (ns.map V.str) = decide (i ∈ ns)
  | [] => by simp [inV]
  | n :: ns => by
    have ih := inV_str i ns
    unfold inV at ih ⊢
    rw [List.map_cons, List.any_cons, ih]
    by_cases h : n = i
    · subst h
      simp [eqV]
    · have h' : ¬ i = n := fun z => h z.symm
      simp [eqV, h, h']
theorem flat_strs (ns : List Str) : (ns.map V.str).all flatV = true := by
  rw [List.all_eq_true]
  intro x hx
  obtain ⟨n, _, rfl⟩ := List.mem_map.mp hx
  rfl
theorem e_inSs {i : Str} {ns : List Str} (ha : E X m a ρ (· = .str i)) (hb : E X m b ρ (· = .tuple (ns.map .str))) (hm : behindInMarks .In b = false := by rfl) : E X m (.Compare a [.In] [b] pos) ρ (· = .bool (decide (i ∈ ns))) := e_cmp op_in_seq ha hb (fun H0 vx vy H o rx ry Q k => by
  cases rx
  cases ry with
  | tup h1 r1 =>
    rw [r1.strs] at h1
    refine ⟨_, _, rfl, .inr h1, rfl, flat_strs ns, ?_⟩
    have := k (.bl (decide (i ∈ ns))) _ H (Kp.refl _ _) o (.bl _) rfl
    rw [← inV_str] at this
    exact this) hm
theorem e_notInSs {i : Str} {ns : List Str} (ha : E X m a ρ (· = .str i)) (hb : E X m b ρ (· = .tuple (ns.map .str))) (hm : behindInMarks .NotIn b = false := by rfl) : E X m (.Compare a [.NotIn] [b] pos) ρ (· = .bool (!decide (i ∈ ns))) := e_cmp op_notIn_seq ha hb (fun H0 vx vy H o rx ry Q k => by
  cases rx
  cases ry with
  | tup h1 r1 =>
    rw [r1.strs] at h1
    refine ⟨_, _, rfl, .inr h1, rfl, flat_strs ns, ?_⟩
    have := k (.bl (!decide (i ∈ ns))) _ H (Kp.refl _ _) o (.bl _) rfl
    rw [← inV_str] at this
    exact this) hm
theorem e_inSign {c : Nat} {z : Str} (ha : E X m a ρ (· = .str ⟨#[c]⟩)) (hb : E X m b ρ (· = .str z)) (hm : behindInMarks .In b = false := by rfl) : E X m (.Compare a [.In] [b] pos) ρ (· = .bool (decide (c ∈ z.cps.toList))) := e_cmp op_in_sign ha hb (r2_val (vz := .bl (decide (c ∈ z.cps.toList))) (fun _ _ => .bl _) fun vx vy H hx hy Q q => by
  obtain ⟨_, hx⟩ := hx
  obtain ⟨_, hy⟩ := hy
  cases hx
  cases hy
  exact ⟨c, z, rfl, rfl, q⟩) hm
/-! ### tests -/
theorem t_e {c : Bool} (h : E X m a ρ (· = .bool c)) (he : ∀ whole, isTrue a X.env whole = (do let v ← whole; standAt a.pos; holding [v] (truthy v)) := by intro _; rfl) : T X m a ρ c := fun H0 av0 σ H en Q k =>
  wt_of (pt_val pe_we he) (h H0 av0 σ H en _ fun v d H' k1 o1 r1 p1 => by
    subst p1
    cases r1
    exact ⟨c, rfl, k H' k1 o1⟩)
theorem t_w {c : Bool} (h : TW X m a ρ c) : T X m a ρ c := fun H0 av0 σ H en Q k => wt_of pw_ww.pt (h H0 av0 σ H en Q k)
theorem t_not {c : Bool} (h : T X m a ρ c) : T X m (.UnaryOp .Not a pos) ρ (!c) := fun H0 av0 σ H en Q k =>
  wt_of (pt_not pt_wt) (h H0 av0 σ H en _ fun H' k1 o1 => k H' k1 o1)
theorem w_and1 {c : Bool} (h : T X m a ρ c) : TW X m (.BoolOp .And [a] pos) ρ c := fun H0 av0 σ H en Q k => ww_of (pw_and1 pt_wt) (h H0 av0 σ H en Q k)
theorem w_or1 {c : Bool} (h : T X m a ρ c) : TW X m (.BoolOp .Or [a] pos) ρ c := fun H0 av0 σ H en Q k => ww_of (pw_or1 pt_wt) (h H0 av0 σ H en Q k)
theorem w_and {c d : Bool} (h : T X m a ρ c) (h2 : c = true → TW X m (.BoolOp .And (b :: es) pos) ρ d) : TW X m (.BoolOp .And (a :: b :: es) pos) ρ (c && d) := fun H0 av0 σ H en Q k =>
  ww_of (pw_and pt_wt pw_ww) (h H0 av0 σ H en _ fun H' k1 o1 => by
    cases c with
    | true => exact iteT (h2 rfl H0 av0 σ H' (en.step k1 o1) Q fun H2 k2 o2 => k H2 (k1.trans k2) o2)
    | false => exact iteF (k H' k1 o1))
theorem w_or {c d : Bool} (h : T X m a ρ c) (h2 : c = false → TW X m (.BoolOp .Or (b :: es) pos) ρ d) : TW X m (.BoolOp .Or (a :: b :: es) pos) ρ (c || d) := fun H0 av0 σ H en Q k =>
  ww_of (pw_or pt_wt pw_ww) (h H0 av0 σ H en _ fun H' k1 o1 => by
    cases c with
    | true => exact iteT (k H' k1 o1)
    | false => exact iteF (h2 rfl H0 av0 σ H' (en.step k1 o1) Q fun H2 k2 o2 => k H2 (k1.trans k2) o2))
/-- .. as values -/
theorem e_one {op : BoolOp} (h : E X m a ρ P) : E X m (.BoolOp op [a] pos) ρ P := fun H0 av0 σ H en Q k => we_of (pe_one pe_we) (h H0 av0 σ H en Q k)
theorem e_and {c d : Bool} (h : E X m a ρ (· = .bool c)) (h2 : c = true → E X m (.BoolOp .And (b :: es) pos) ρ (· = .bool d)) : E X m (.BoolOp .And (a :: b :: es) pos) ρ (· = .bool (c && d)) := fun H0 av0 σ H en Q k =>
  we_of (pe_and pe_we pe_we) (h H0 av0 σ H en _ fun v x H' k1 o1 r1 p1 => by
    subst p1
    cases r1
    refine ⟨c, rfl, ?_⟩
    cases c with
    | true => exact iteT (h2 rfl H0 av0 σ H' (en.step k1 o1) Q fun v2 d2 H2 k2 o2 => k v2 d2 H2 (k1.trans k2) o2)
    | false => exact iteF (k _ _ H' k1 o1 (.bl false) rfl))
theorem e_or {c d : Bool} (h : E X m a ρ (· = .bool c)) (h2 : c = false → E X m (.BoolOp .Or (b :: es) pos) ρ (· = .bool d)) : E X m (.BoolOp .Or (a :: b :: es) pos) ρ (· = .bool (c || d)) := fun H0 av0 σ H en Q k =>
  we_of (pe_or pe_we pe_we) (h H0 av0 σ H en _ fun v x H' k1 o1 r1 p1 => by
    subst p1
    cases r1
    refine ⟨c, rfl, ?_⟩
    cases c with
    | true => exact iteT (k _ _ H' k1 o1 (.bl true) rfl)
    | false => exact iteF (h2 rfl H0 av0 σ H' (en.step k1 o1) Q fun v2 d2 H2 k2 o2 => k v2 d2 H2 (k1.trans k2) o2))
theorem e_not {c : Bool} (h : E X m a ρ (· = .bool c)) : E X m (.UnaryOp .Not a pos) ρ (· = .bool (!c)) := fun H0 av0 σ H en Q k =>
  we_of (pe_not pe_we) (h H0 av0 σ H en _ fun v x H' k1 o1 r1 p1 => by
    subst p1
    cases r1
    exact ⟨c, rfl, k _ _ H' k1 o1 (.bl (!c)) rfl⟩)
/-! ### built-in calls -/
def R1D (X : Cx) (m : Mm) (r : List V → Hp → VK → Prop) (xs : List PD) (P : PD → Prop) : Prop := ∀ H0 vs H, MuOk X.K H0 m H → RpA X.K m.av H vs xs → ∀ Q : VK, KD X H0 m H P Q → r vs H Q
theorem e_callB {x : Str} {id : String} {r : List V → Hp → VK → Prop} {xs : List PD} (hc : CallR X (.builtin id) r) (hm : X.mg x = none) (hv : bootBuiltins x = some (.builtin id)) (ha : EA X m (e :: es) ρ (· = xs)) (hr : R1D X m r xs P) (hg : Gl X x := by rfl) (hn : x ≠ "__name__" := by decide) (hdb : (x == ("__debug__" : Str)) = false := by decide)
    (he : starEach (e :: es) X.env = (false, eval e X.env) :: starEach es X.env := by rfl) (hpl : (backTo pos (starEach es X.env)).any (·.1) = false := by rfl) : E X m (.Call (.Name x p) (e :: es) [] pos) ρ P := fun H0 av0 σ H en Q k =>
  we_of (pe_callB hc hg hm hv pa_wa hn hdb he hpl) (ha H0 av0 σ H en _ fun vs ds H1 k1 o1 r1 l1 p1 => by
    subst p1
    exact hr H0 vs H1 o1 r1 Q fun v d H2 k2 o2 r2 p2 => k v d H2 (k1.trans k2) o2 r2 p2)
theorem e_callTy {x : Str} {id : String} {r : List V → Hp → VK → Prop} {xs : List PD} (hc : CallR X (.type id) r) (hm : X.mg x = none) (hv : bootBuiltins x = some (.type id)) (ha : EA X m (e :: es) ρ (· = xs)) (hr : R1D X m r xs P) (hg : Gl X x := by rfl) (hn : x ≠ "__name__" := by decide) (hdb : (x == ("__debug__" : Str)) = false := by decide)
    (he : starEach (e :: es) X.env = (false, eval e X.env) :: starEach es X.env := by rfl) (hpl : (backTo pos (starEach es X.env)).any (·.1) = false := by rfl) : E X m (.Call (.Name x p) (e :: es) [] pos) ρ P := fun H0 av0 σ H en Q k =>
  we_of (pe_callTy hc hg hm hv pa_wa hn hdb he hpl) (ha H0 av0 σ H en _ fun vs ds H1 k1 o1 r1 l1 p1 => by
    subst p1
    exact hr H0 vs H1 o1 r1 Q fun v d H2 k2 o2 r2 p2 => k v d H2 (k1.trans k2) o2 r2 p2)
/-- the length of data -/
def plen : PD → Option Nat
  | .tuple ds => some ds.length
  | .list ds => some ds.length
  | .str x => if x.length ≤ 1000000 then some x.length else none
  | _ => none
theorem e_len {x : PD} {n : Nat} (hm : X.mg "len" = none) (ha : E X m a ρ (· = x)) (hx : plen x = some n) (hg : Gl X "len" := by rfl) (he : starEach [a] X.env = (false, eval a X.env) :: starEach [] X.env := by rfl) : E X m (.Call (.Name "len" p) [a] [] pos) ρ (· = .int n) :=
  e_callB call_len hm PySem.boot_len (ea_c ha ea_nil he) (fun H0 vs H o r Q k => by
    cases r with
    | cons r1 r2 =>
      cases r2
      refine ⟨_, n, rfl, ?_, k _ _ H (Kp.refl _ _) o (.int n) rfl⟩
      cases r1 with
      | str z =>
        have h1 : (if z.length ≤ 1000000 then some z.length else none) = some n := hx
        by_cases hz : z.length ≤ 1000000
        · rw [if_pos hz] at h1
          exact ⟨sz_of hz, (Option.some.inj h1).symm⟩
        · rw [if_neg hz] at h1
          cases h1
      | lst h1 _ h2 =>
        refine .inl ⟨_, SqL.of h1, ?_⟩
        rw [h2.length]
        exact (Option.some.inj hx).symm
      | tup h1 h2 =>
        refine .inr ⟨_, h1, ?_⟩
        rw [h2.length]
        exact (Option.some.inj hx).symm
      | _ => cases hx) hg (he := he)
theorem e_tuple {ds : List PD} (hm : X.mg "tuple" = none) (ha : E X m a ρ (· = .list ds)) (hg : Gl X "tuple" := by rfl) (he : starEach [a] X.env = (false, eval a X.env) :: starEach [] X.env := by rfl) : E X m (.Call (.Name "tuple" p) [a] [] pos) ρ (· = .tuple ds) := fun H0 av0 σ H en Q k =>
  we_of (pe_tupleOf hg hm pe_we he) (ha H0 av0 σ H en _ fun v d H1 k1 o1 r1 p1 => by
    subst p1
    cases r1 with
    | lst h1 h2 h3 => exact .inl ⟨_, _, rfl, SqL.of h1, fun q hq => k _ _ _ (k1.trans (Kp.new hq)) (o1.new hq) (.tup (SqT.of upd_same) (h3.kp (Kp.new (k := m.dk) hq) o1.dkav)) rfl⟩)
theorem e_tupleP {P : List PD → Prop} (hm : X.mg "tuple" = none) (ha : E X m a ρ (fun d => ∃ ds, d = .list ds ∧ P ds)) (hg : Gl X "tuple" := by rfl) (he : starEach [a] X.env = (false, eval a X.env) :: starEach [] X.env := by rfl) : E X m (.Call (.Name "tuple" p) [a] [] pos) ρ (fun d => ∃ ds, d = .tuple ds ∧ P ds) := fun H0 av0 σ H en Q k =>
  we_of (pe_tupleOf hg hm pe_we he) (ha H0 av0 σ H en _ fun v d H1 k1 o1 r1 p1 => by
    obtain ⟨ds, p0, p1⟩ := p1
    subst p0
    cases r1 with
    | lst h1 h2 h3 => exact .inl ⟨_, _, rfl, SqL.of h1, fun q hq => k _ _ _ (k1.trans (Kp.new hq)) (o1.new hq) (.tup (SqT.of upd_same) (h3.kp (Kp.new (k := m.dk) hq) o1.dkav)) ⟨ds, rfl, p1⟩⟩)
theorem e_tupRg {n : Int} (hc : X.calm = true) (hm : X.mg "tuple" = none) (hm2 : X.mg "range" = none) (ha : E X m a ρ (· = .int n)) (h0 : 0 ≤ n) (h1 : n ≤ 1000000) {p2 pos2 : Pos} (hg : Gl X "tuple" := by rfl) (hg2 : Gl X "range" := by rfl) (na : starEach [a] X.env = (false, eval a X.env) :: starEach [] X.env := by rfl)
    (na2 : starEach [.Call (.Name "range" p2) [a] [] pos2] X.env = (false, eval (.Call (.Name "range" p2) [a] [] pos2) X.env) :: starEach [] X.env := by rfl) :
    E X m (.Call (.Name "tuple" p) [.Call (.Name "range" p2) [a] [] pos2] [] pos) ρ (· = .tuple ((List.range n.toNat).map fun i => .int (i : Nat))) := fun H0 av0 σ H en Q k =>
  we_of (pe_tupRg hc hg hm (prg_1 hg2 hm2 pe_we na) na2) (ha H0 av0 σ H en _ fun v d H1 k1 o1 r1 p1 => by
    subst p1
    cases r1
    refine ⟨n, rfl, RgOk.of_le (by omega) (by omega) (by omega) (by omega), fun q hq => k _ _ _ (k1.trans (Kp.new hq)) (o1.new hq) (.tup (SqT.of upd_same) ?_) rfl⟩
    have e1 : rgV 0 n = ((List.range n.toNat).map fun i => ((i : Nat) : Int)).map V.int := by
      unfold rgV
      rw [List.map_map, show (n - 0).toNat = n.toNat by rw [Int.sub_zero]]
      exact List.map_congr_left fun i _ => by show V.int (0 + (i : Int)) = V.int (i : Int); rw [Int.zero_add]
    have e2 : ((List.range n.toNat).map fun i => PyData.int (i : Nat)) = ((List.range n.toNat).map fun i => ((i : Nat) : Int)).map PyData.int := by rw [List.map_map]; rfl
    rw [e1, e2]
    exact RpA.ofInts _)
theorem e_max {i j : Int} (hc : X.calm = true) (hm : X.mg "max" = none) (ha : E X m a ρ (· = .int i)) (hb : E X m b ρ (· = .int j)) (hg : Gl X "max" := by rfl) (he : starEach [a, b] X.env = (false, eval a X.env) :: starEach [b] X.env := by rfl) (he2 : starEach [b] X.env = (false, eval b X.env) :: starEach [] X.env := by rfl)
    (hpl : (backTo pos (starEach [b] X.env)).any (·.1) = false := by rfl) : E X m (.Call (.Name "max" p) [a, b] [] pos) ρ (· = .int (if j > i then j else i)) :=
  e_callB (call_max2 hc) hm (by decide +kernel) (ea_c ha (ea_c hb ea_nil he2) he) (fun H0 vs H o r Q k => by
    cases r with
    | cons r1 r2 =>
      cases r1
      cases r2 with
      | cons r2 r3 =>
        cases r2
        cases r3
        exact ⟨i, j, rfl, k _ _ H (Kp.refl _ _) o (.int _) rfl⟩) hg (he := he) (hpl := hpl)
theorem e_all {bs : List Bool} (hc : X.calm = true) (hm : X.mg "all" = none) (ha : E X m a ρ (· = .list (bs.map .bool))) (hg : Gl X "all" := by rfl) (he : starEach [a] X.env = (false, eval a X.env) :: starEach [] X.env := by rfl) : E X m (.Call (.Name "all" p) [a] [] pos) ρ (· = .bool (bs.all id)) :=
  e_callB (cr_all hc) hm (by decide +kernel) (ea_c ha ea_nil he) (fun H0 vs H o r Q k => by
    cases r with
    | cons r1 r2 =>
      cases r2
      cases r1 with
      | lst h1 h2 h3 =>
        rw [h3.bls] at h1
        exact ⟨_, bs, rfl, SqL.of h1, k _ _ H (Kp.refl _ _) o (.bl _) rfl⟩) hg (he := he)
theorem e_intB {c : Bool} (hm : X.mg "int" = none) (ha : E X m a ρ (· = .bool c)) (hg : Gl X "int" := by rfl) (he : starEach [a] X.env = (false, eval a X.env) :: starEach [] X.env := by rfl) : E X m (.Call (.Name "int" p) [a] [] pos) ρ (· = .int (if c then 1 else 0)) :=
  e_callTy call_int1 hm (by decide +kernel) (ea_c ha ea_nil he) (fun H0 vs H o r Q k => by
    cases r with
    | cons r1 r2 =>
      cases r2
      cases r1
      exact .inr ⟨c, rfl, k _ _ H (Kp.refl _ _) o (.int _) rfl⟩) hg (he := he)
/-- isinstance(x, T), T a built-in type by its name -/
def tyOf : PD → String
  | .none => "NoneType"
  | .bool _ => "bool"
  | .int _ => "int"
  | .str _ => "str"
  | .list _ => "list"
  | .tuple _ => "tuple"
  | .dict _ => "tuple"
theorem tyX_of {K : PySem.W.Frag} {av : Addr → Prop} {H : Hp} {v : V} {d : PD} (h : Rp K av H v d) : TyX K H v (.type (tyOf d)) := by
  cases h with
  | non => exact .base .non
  | bl b => exact .base (.bl b)
  | int i => exact .base (.int i)
  | str x => exact .base (.str x)
  | lst h1 h2 h3 => exact .base (.lst h1)
  | tup h1 h3 =>
    rcases h1 with (h1 | ⟨o, h1⟩) | ⟨o, its, n, h1, h2, _⟩
    · exact .base (.tup h1)
    · exact .fTuple h1
    · exact .kTuple h1 h2
  | tx x =>
    obtain ⟨o, h1, _⟩ := x
    exact .fTuple h1
theorem e_isi {x : PD} {t : Str} {T : String} {c : Bool} (hm : X.mg "isinstance" = none) (hmT : X.mg t = none) (ha : E X m a ρ (· = x)) (hT : bootBuiltins t = some (.type T)) (hk : kitB (tyOf x) T = some c) (hg : Gl X "isinstance" := by rfl) (hgT : Gl X t := by rfl) {p2 : Pos}
    (hn : t ≠ "__name__" := by decide) (hd : (t == ("__debug__" : Str)) = false := by decide)
    (he : starEach [a, .Name t p2] X.env = (false, eval a X.env) :: starEach [.Name t p2] X.env := by rfl) (hpl : (backTo pos (starEach [.Name t p2] X.env)).any (·.1) = false := by rfl) (he2 : starEach [.Name t p2] X.env = (false, eval (.Name t p2) X.env) :: starEach [] X.env := by rfl) :
    E X m (.Call (.Name "isinstance" p) [a, .Name t p2] [] pos) ρ (· = .bool c) := fun H0 av0 σ H en Q k =>
  we_of (pe_callB call_isi hg hm (by decide +kernel) (pa_cons pe_we (pa_cons (pe_bltn (v := .ty T) hgT hmT hT rfl hn hd) pa_nil he2) he) (by decide) (by decide) he hpl) (ha H0 av0 σ H en _ fun v d H1 k1 o1 r1 p1 => by
    subst p1
    exact ⟨v, .ty T, _, _, c, rfl, .ty T, tyX_of r1, kit_ty hk, k _ _ H1 k1 o1 (.bl c) rfl⟩)
end
end Tk
end
section
namespace Tk
open PySem PySem.Spec PyProof.Rows L2
section
variable {X : Cx} {m : Mm} {e a b : Expr} {es : List Expr} {ρ : List Sl} {P : PD → Prop} {pos p p2 : Pos} {k : Nat}
/-! ### items, slices -/
theorem atI_rp {K : PySem.W.Frag} {av : Addr → Prop} {H : Hp} {vs : List V} {ds : List PD} {i : Int} {d : PD} (r : RpA K av H vs ds) (h : atI ds i = some d) : ∃ v, atI vs i = some v ∧ Rp K av H v d := by
  unfold atI at h ⊢
  rw [r.length]
  cases e : ixN ds.length i with
  | none => rw [e] at h; cases h
  | some j =>
    rw [e] at h
    exact r.get' (i := j) h
def IxD (x y : PD) (P : PD → Prop) : Prop := ∃ ds i d, (x = .tuple ds ∨ x = .list ds) ∧ y = .int i ∧ atI ds i = some d ∧ P d
theorem e_ixP {Pa : PD → Prop} {Pb : PD → PD → Prop} (ha : E X m a ρ Pa) (hb : ∀ x, Pa x → E X m b ρ (Pb x)) (hr : ∀ x y, Pa x → Pb x y → IxD x y P) (hs : PlainIx b := by exact fun _ _ => rfl) : E X m (.Subscript a b pos) ρ P := fun H0 av0 σ H en Q k =>
  we_of (pe_ix (ix_list.or ix_tup) pe_we pe_we hs) (ha H0 av0 σ H en _ fun v d H1 k1 o1 r1 p1 => hb d p1 H0 av0 σ H1 (en.step k1 o1) _ fun v2 d2 H2 k2 o2 r2 p2 => by
    obtain ⟨ds, i, z, hx, rfl, hz, pz⟩ := hr d d2 p1 p2
    have r1' := r1.kp k2 o1.dkav
    cases r2
    rcases hx with rfl | rfl
    · cases r1' with
      | tup h1 h2 =>
        obtain ⟨vz, e1, e2⟩ := atI_rp h2 hz
        exact .inr ⟨_, _, i, vz, rfl, rfl, h1, e1, k vz z H2 (k1.trans k2) o2 e2 pz⟩
    · cases r1' with
      | lst h1 _ h2 =>
        obtain ⟨vz, e1, e2⟩ := atI_rp h2 hz
        exact .inl ⟨_, _, i, vz, rfl, rfl, SqL.of h1, e1, k vz z H2 (k1.trans k2) o2 e2 pz⟩)
theorem e_ix {ds : List PD} {i : Int} {d : PD} (ha : E X m a ρ (· = .tuple ds)) (hb : E X m b ρ (· = .int i)) (h : atI ds i = some d) (hs : PlainIx b := by exact fun _ _ => rfl) : E X m (.Subscript a b pos) ρ (· = d) :=
  e_ixP ha (fun _ _ => hb) (fun x y hx hy => ⟨ds, i, d, .inl hx, hy, h, rfl⟩) hs
theorem e_ixL {ds : List PD} {i : Int} {d : PD} (ha : E X m a ρ (· = .list ds)) (hb : E X m b ρ (· = .int i)) (h : atI ds i = some d) (hs : PlainIx b := by exact fun _ _ => rfl) : E X m (.Subscript a b pos) ρ (· = d) :=
  e_ixP ha (fun _ _ => hb) (fun x y hx hy => ⟨ds, i, d, .inr hx, hy, h, rfl⟩) hs
theorem e_ixSP {z : Str} {Pb : PD → Prop} (ha : E X m a ρ (· = .str z)) (hb : E X m b ρ Pb) (hz : z.length ≤ 1000000) (hr : ∀ y, Pb y → ∃ i c, y = .int i ∧ atI z.cps.toList i = some c ∧ P (.str ⟨#[c]⟩)) (hs : PlainIx b := by exact fun _ _ => rfl) : E X m (.Subscript a b pos) ρ P := fun H0 av0 σ H en Q k =>
  we_of (pe_ix ix_str pe_we pe_we hs) (ha H0 av0 σ H en _ fun v d H1 k1 o1 r1 p1 => hb H0 av0 σ H1 (en.step k1 o1) _ fun v2 d2 H2 k2 o2 r2 p2 => by
    subst p1
    obtain ⟨i, c, rfl, hz2, pz⟩ := hr d2 p2
    cases r1
    cases r2
    exact ⟨z, i, c, rfl, rfl, sz_of hz, hz2, k _ _ H2 (k1.trans k2) o2 (.str _) pz⟩)
theorem e_ixS {z : Str} {i : Int} {c : Nat} (ha : E X m a ρ (· = .str z)) (hb : E X m b ρ (· = .int i)) (hz : z.length ≤ 1000000) (hr : atI z.cps.toList i = some c) (hs : PlainIx b := by exact fun _ _ => rfl) : E X m (.Subscript a b pos) ρ (· = .str ⟨#[c]⟩) :=
  e_ixSP ha hb hz (fun y hy => ⟨i, c, hy, hr, rfl⟩) hs
/-- a part of a slice -/
def OD (X : Cx) (m : Mm) (e : Option Expr) (ρ : List Sl) (P : Option Int → Prop) : Prop := ∀ H0 av0 σ H, Env' X.K H0 av0 m σ H ρ → ∀ Q : Option Int → Hp → Prop, (∀ o H', Kp m.dk H H' → MuOk X.K H0 m H' → P o → Q o H') → ∃ t, PO X e t ∧ t σ H Q
theorem o_none : OD X m none ρ (· = none) := fun H0 av0 σ H en Q k => ⟨_, po_none, k none H (Kp.refl _ _) en.ok rfl⟩
theorem o_someP {P : PD → Prop} {R : Option Int → Prop} (h : E X m e ρ P) (hr : ∀ d, P d → ∃ i, d = .int i ∧ R (some i)) : OD X m (some e) ρ R := fun H0 av0 σ H en Q k => ⟨_, po_some pe_we, h H0 av0 σ H en _ fun v d H' k1 o1 r1 p1 => by
  obtain ⟨i, rfl, hi⟩ := hr d p1
  cases r1
  exact ⟨i, rfl, k _ H' k1 o1 hi⟩⟩
theorem o_some {i : Int} (h : E X m e ρ (· = .int i)) : OD X m (some e) ρ (· = some i) := o_someP h fun d hd => ⟨i, hd, rfl⟩
/-- a part of a slice as a reading -/
def wo (X : Cx) (e : Option Expr) : TO := fun σ H Q => ∃ t, PO X e t ∧ t σ H Q
theorem po_wo {e : Option Expr} : PO X e (wo X e) := ⟨fun pins s σ H Q I h => by
  obtain ⟨t, h1, h2⟩ := h
  exact h1.run pins s σ H Q I h2⟩
theorem e_slT {lo hi : Option Expr} {ds : List PD} {l h : Option Int} (ha : E X m a ρ (· = .tuple ds)) (hl : OD X m lo ρ (· = l)) (hh : OD X m hi ρ (· = h)) : E X m (.Subscript a (.Slice lo hi none p2) pos) ρ (· = .tuple (cutP ds l h)) := fun H0 av0 σ H en Q k =>
  we_of (pe_slice sl_tupA pe_we po_wo po_wo) (ha H0 av0 σ H en _ fun v d H1 k1 o1 r1 p1 => hl H0 av0 σ H1 (en.step k1 o1) _ fun ol H2 k2 o2 e2 => hh H0 av0 σ H2 ((en.step k1 o1).step k2 o2) _ fun oh H3 k3 o3 e3 => by
    subst p1 e2 e3
    have r3 := (r1.kp k2 o1.dkav).kp k3 o2.dkav
    cases r3 with
    | tup h1 h2 =>
      refine ⟨_, _, rfl, h1, fun hw => ?_, fun _ p hp => ?_⟩
      · refine k _ _ H3 ((k1.trans k2).trans k3) o3 (.tup h1 h2) ?_
        rw [h2.length] at hw
        unfold cutP
        rw [hw.1, hw.2, List.drop_zero, Nat.sub_zero, List.take_length]
      · exact k _ _ _ (((k1.trans k2).trans k3).trans (Kp.new hp)) (o3.new hp) (.tup (SqT.of upd_same) ((h2.cut _ _).kp (Kp.new (k := m.dk) hp) o3.dkav)) rfl)
theorem el_slL {lo hi : Option Expr} {ds : List PD} {l h : Option Int} (ha : E X m a ρ (· = .list ds)) (hl : OD X m lo ρ (· = l)) (hh : OD X m hi ρ (· = h)) : EL X m (.Subscript a (.Slice lo hi none p2) pos) ρ (· = cutP ds l h) := fun H0 av0 σ H en Q k =>
  we_of (pe_slice sl_list pe_we po_wo po_wo) (ha H0 av0 σ H en _ fun v d H1 k1 o1 r1 p1 => hl H0 av0 σ H1 (en.step k1 o1) _ fun ol H2 k2 o2 e2 => hh H0 av0 σ H2 ((en.step k1 o1).step k2 o2) _ fun oh H3 k3 o3 e3 => by
    subst p1 e2 e3
    have r3 := (r1.kp k2 o1.dkav).kp k3 o2.dkav
    cases r3 with
    | lst h1 _ h2 =>
      refine ⟨_, _, rfl, SqL.of h1, fun p hp => ?_⟩
      have kk := (k1.trans k2).trans k3
      refine k _ _ _ _ ?_ (kk.trans (Kp.new hp)) (o3.new hp) upd_same ((h2.cut _ _).kp (Kp.new (k := m.dk) hp) o3.dkav) rfl
      cases e : H p with
      | none => rfl
      | some o =>
        by_cases z : m.dk = some p
        · exact absurd hp (o3.dom p (o3.dkav p z))
        · rw [kk p o e (fun q => absurd q z)] at hp
          cases hp)
theorem e_slSP {lo hi : Option Expr} {z : Str} {Rl Rh : Option Int → Prop} (ha : E X m a ρ (· = .str z)) (hz : z.length ≤ 1000000) (hl : OD X m lo ρ Rl) (hh : OD X m hi ρ Rh) (hr : ∀ l h, Rl l → Rh h → P (.str (cutS z l h))) : E X m (.Subscript a (.Slice lo hi none p2) pos) ρ P := fun H0 av0 σ H en Q k =>
  we_of (pe_slice sl_str pe_we po_wo po_wo) (ha H0 av0 σ H en _ fun v d H1 k1 o1 r1 p1 => hl H0 av0 σ H1 (en.step k1 o1) _ fun ol H2 k2 o2 e2 => hh H0 av0 σ H2 ((en.step k1 o1).step k2 o2) _ fun oh H3 k3 o3 e3 => by
    subst p1
    cases r1
    exact ⟨z, rfl, sz_of hz, k _ _ H3 ((k1.trans k2).trans k3) o3 (.str _) (hr _ _ e2 e3)⟩)
theorem e_slS {lo hi : Option Expr} {z : Str} {l h : Option Int} (ha : E X m a ρ (· = .str z)) (hz : z.length ≤ 1000000) (hl : OD X m lo ρ (· = l)) (hh : OD X m hi ρ (· = h)) : E X m (.Subscript a (.Slice lo hi none p2) pos) ρ (· = .str (cutS z l h)) :=
  e_slSP ha hz hl hh fun l' h' e1 e2 => by rw [e1, e2]
/-- list + list, new lists -/
theorem el_cat {x y : List PD} (ha : EL X m a ρ (· = x)) (hb : EL X m b ρ (· = y)) (hl : x.length + y.length ≤ 1000000) : EL X m (.BinOp a .Add b pos) ρ (· = x ++ y) := fun H0 av0 σ H en Q k =>
  we_of (pe_op op_cat pe_we pe_we) (ha H0 av0 σ H en _ fun p1 vs1 ds1 H1 n1 k1 o1 h1 r1 e1 => hb H0 av0 σ H1 (en.step k1 o1) _ fun p2 vs2 ds2 H2 n2 k2 o2 h2 r2 e2 => by
    subst e1 e2
    have h1' : H2 p1 = some (.lst vs1) := k2 _ _ h1 (fun z => absurd n1 (en.ok.dom p1 (en.ok.dkav p1 z)))
    have r1' := r1.kp k2 o1.dkav
    refine ⟨_, _, _, _, rfl, rfl, h1', h2, sz_of (by rw [r1.length, r2.length]; exact hl), fun p hp => ?_⟩
    have kk := k1.trans k2
    refine k _ _ _ _ ?_ (kk.trans (Kp.new hp)) (o2.new hp) upd_same ((r1'.append r2).kp (Kp.new (k := m.dk) hp) o2.dkav) rfl
    cases e : H p with
    | none => rfl
    | some o =>
      by_cases z : m.dk = some p
      · exact absurd hp (o2.dom p (o2.dkav p z))
      · rw [kk p o e (fun q => absurd q z)] at hp
        cases hp)
/-! ### texts' methods -/
theorem e_split {x y : Str} {apos : Pos} (ha : E X m a ρ (· = .str x)) (hb : E X m b ρ (· = .str y)) (hy : (y.length == 0) = false) (hx : x.length + 2 ≤ 1000000) (hs : starEach [b] X.env = [(false, eval b X.env)] := by rfl) (hbase : attributeBase a "split" X.env (eval a X.env) = eval a X.env := by rfl) (hline : (apos.endLine == pos.line) = true := by rfl) :
    E X m (.Call (.Attribute a "split" apos) [b] [] pos) ρ (· = .list ((Txt.split x y).map .str)) := fun H0 av0 σ H en Q k =>
  we_of (pe_split pe_we pe_we hs hbase hline) (ha H0 av0 σ H en _ fun v d H1 k1 o1 r1 p1 => by
    subst p1
    cases r1
    exact ⟨⟨x, rfl⟩, hb H0 av0 σ H1 (en.step k1 o1) _ fun v2 d2 H2 k2 o2 r2 p2 => by
      subst p2
      cases r2
      exact ⟨x, y, rfl, rfl, hy, sz_of hx, fun q hq => k _ _ _ ((k1.trans k2).trans (Kp.new hq)) (o2.new hq) (.lst upd_same (o2.fresh hq) (RpA.ofStrs _)) rfl⟩⟩)
theorem e_join {x : Str} {ys : List Str} {apos : Pos} (ha : E X m a ρ (· = .str x)) (hb : E X m b ρ (· = .list (ys.map .str))) (hl : (ys.map (·.length)).sum + ys.length * x.length ≤ 16777216) (hs : starEach [b] X.env = [(false, eval b X.env)] := by rfl) (hbase : attributeBase a "join" X.env (eval a X.env) = eval a X.env := by rfl) (hline : (apos.endLine == pos.line) = true := by rfl) :
    E X m (.Call (.Attribute a "join" apos) [b] [] pos) ρ (· = .str (Txt.join x ys)) := fun H0 av0 σ H en Q k =>
  we_of (pe_join pe_we pe_we hs hbase hline) (ha H0 av0 σ H en _ fun v d H1 k1 o1 r1 p1 => by
    subst p1
    cases r1
    exact ⟨⟨x, rfl⟩, hb H0 av0 σ H1 (en.step k1 o1) _ fun v2 d2 H2 k2 o2 r2 p2 => by
      subst p2
      cases r2 with
      | lst h1 h2 h3 =>
        rw [h3.strs] at h1
        exact ⟨x, _, ys, rfl, rfl, .inl (SqL.of h1), hl, k _ _ H2 (k1.trans k2) o2 (.str _) rfl⟩⟩)
theorem e_sindex {x y : Str} {i : Nat} {rest : List Nat} {apos : Pos} (ha : E X m a ρ (· = .str x)) (hb : E X m b ρ (· = .str y)) (ho : Builtin.Str.occurrences x y 0 x.length 1 = i :: rest) (hs : starEach [b] X.env = [(false, eval b X.env)] := by rfl) (hbase : attributeBase a "index" X.env (eval a X.env) = eval a X.env := by rfl) (hline : (apos.endLine == pos.line) = true := by rfl) :
    E X m (.Call (.Attribute a "index" apos) [b] [] pos) ρ (· = .int i) := fun H0 av0 σ H en Q k =>
  we_of (pe_m1 PySem.F.slot_str_index PySem.F.type_str_index mt_sindex pe_we pe_we hs hbase hline) (ha H0 av0 σ H en _ fun v d H1 k1 o1 r1 p1 => by
    subst p1
    cases r1
    exact ⟨⟨x, rfl⟩, hb H0 av0 σ H1 (en.step k1 o1) _ fun v2 d2 H2 k2 o2 r2 p2 => by
      subst p2
      cases r2
      exact ⟨x, y, i, rest, rfl, rfl, ho, k _ _ H2 (k1.trans k2) o2 (.int _) rfl⟩⟩)
/-! ### module constants -/
theorem e_glob {x : Str} {d : PD} (h : ∃ v u, X.mg x = some u ∧ RelV v u ∧ ∀ av H, Rp X.K av H v d) (hg : Gl X x := by rfl) (hd : (x == ("__debug__" : Str)) = false := by decide) : E X m (.Name x pos) ρ (· = d) := by
  obtain ⟨v, u, h1, h2, h3⟩ := h
  exact e_c (pe_glob hg h1 h2 hd) h3
/-! ### defs that take data and hand back data -/
def spD (K : PySem.W.Frag) (G : List PD → PD → Prop) : Sp := fun vs H Q _ => ∃ av ds d, (∀ a, av a → H a ≠ none) ∧ RpA K av H vs ds ∧ G ds d ∧ ∀ v H', Same H H' → Rp K av H' v d → Q v H'
theorem MuOk.call {K : PySem.W.Frag} {H0 H H' : Hp} {m : Mm} (h : MuOk K H0 m H) (s : Same H H') : MuOk K H0 m H' := h.keep s
theorem e_call {CX : CXT} {n : Nat} {f : Addr} {fd : FuncData} {ps : List Str} {G : List PD → PD → Prop} {x : Str} {ds : List PD} {d : PD} {xe : XK} (F : FnOk X.prog X.w X.K X.mg X.base CX n f fd ps (spD X.K G)) (hr : Room n X.A) (hm : X.mg x = some (.ref f)) (hk : PySem.W.keepIn X.K (.ref f) = true) (hb : Binds X.K fd ps []) (hx : Passes CX X xe)
    (ha : EA X m (e :: es) ρ (· = ds)) (hG : G ds d) (hg : Gl X x := by rfl) (hdb : (x == ("__debug__" : Str)) = false := by decide) (he : starEach (e :: es) X.env = (false, eval e X.env) :: starEach es X.env := by rfl) (hpl : (backTo pos (starEach es X.env)).any (·.1) = false := by rfl) :
    E X m (.Call (.Name x p) (e :: es) [] pos) ρ (· = d) := fun H0 av0 σ H en Q k =>
  we_of (pe_call F hr hg hm hk hb .nil hx pa_wa hdb he hpl) (ha H0 av0 σ H en _ fun vs ds' H1 k1 o1 r1 l1 p1 => by
    subst p1
    rw [List.append_nil]
    exact ⟨m.av, ds', d, o1.dom, r1, hG, fun v H' s r => k v d H' (k1.trans (Kp.same s)) (o1.call s) r rfl⟩)
/-- the last argument left out: None -/
theorem e_callN {CX : CXT} {n : Nat} {f : Addr} {fd : FuncData} {ps : List Str} {G : List PD → PD → Prop} {x : Str} {ds : List PD} {d : PD} {xe : XK} {us : List Value} (F : FnOk X.prog X.w X.K X.mg X.base CX n f fd ps (spD X.K G)) (hr : Room n X.A) (hm : X.mg x = some (.ref f)) (hk : PySem.W.keepIn X.K (.ref f) = true) (hb : Binds X.K fd ps us) (hu : Vals [.non] us) (hx : Passes CX X xe)
    (ha : EA X m (e :: es) ρ (· = ds)) (hG : G (ds ++ [.none]) d) (hg : Gl X x := by rfl) (hdb : (x == ("__debug__" : Str)) = false := by decide) (he : starEach (e :: es) X.env = (false, eval e X.env) :: starEach es X.env := by rfl) (hpl : (backTo pos (starEach es X.env)).any (·.1) = false := by rfl) :
    E X m (.Call (.Name x p) (e :: es) [] pos) ρ (· = d) := fun H0 av0 σ H en Q k =>
  we_of (pe_call F hr hg hm hk hb hu hx pa_wa hdb he hpl) (ha H0 av0 σ H en _ fun vs ds' H1 k1 o1 r1 l1 p1 => by
    subst p1
    exact ⟨m.av, ds' ++ [.none], d, o1.dom, r1.append (.one .non), hG, fun v H' s r => k v d H' (k1.trans (Kp.same s)) (o1.call s) r rfl⟩)
end
/-! ### comprehensions -/
abbrev Cx.bk (X : Cx) (scope : Scope) (s : Shared) (H : Hp) (C : Addr) (cl : List (Str × Addr)) (fp : List Addr) : Cx := X.blk s H scope (compEnvC scope cl C X.env) fp
def EB (X : Cx) (scope : Scope) (mu : Mu) (e : Expr) (ρ : List Sl) (P : PD → Prop) : Prop := ∀ s H C cl fp av, E (Cx.bk X scope s H C cl fp) ⟨av, mu⟩ e ρ P
section
variable {X : Cx} {m : Mm} {e a b : Expr} {es : List Expr} {ρ : List Sl} {P : PD → Prop} {pos p p2 : Pos} {k : Nat}
def wB (X : Cx) (scope : Scope) (e : Expr) : TE := fun σ H Q => ∀ s Hh C cl fp, WE (Cx.bk X scope s Hh C cl fp) e σ H Q
theorem pe_wB {scope : Scope} (s : Shared) (H : Hp) (C : Addr) (cl : List (Str × Addr)) (fp : List Addr) : PE (X.blk s H scope (compEnvC scope cl C X.env) fp) e (wB X scope e) := ⟨fun pins s' σ H' Q I h => (h s H C cl fp).run pins s' I⟩
def wide (m : Mm) (D : Addr) : Mm := ⟨fun a => m.av a ∨ a = D, m.mu⟩
theorem wide_dk (m : Mm) (D : Addr) : (wide m D).dk = m.dk := by
  obtain ⟨av, mu⟩ := m
  cases mu <;> rfl
theorem Rp.wide {K : PySem.W.Frag} {m : Mm} {D : Addr} {H1 H' : Hp} {v : V} {d : PD} (kp : Kp m.dk H1 H') (hk : ∀ p, m.dk = some p → m.av p) (hD : H1 D = none) (r : Rp K m.av H1 v d) : Rp K (wide m D).av H' v d :=
  Rp.mono kp.tt (fun a xs e n => ⟨kp _ _ e (fun z => absurd (hk a z) n), fun z => z.elim n fun q => by rw [q, hD] at e; cases e⟩) d v r
theorem RpA.wide {K : PySem.W.Frag} {m : Mm} {D : Addr} {H1 H' : Hp} {v : List V} {d : List PD} (kp : Kp m.dk H1 H') (hk : ∀ p, m.dk = some p → m.av p) (hD : H1 D = none) (r : RpA K m.av H1 v d) : RpA K (wide m D).av H' v d :=
  RpA.mono kp.tt (fun a xs e n => ⟨kp _ _ e (fun z => absurd (hk a z) n), fun z => z.elim n fun q => by rw [q, hD] at e; cases e⟩) d v r
/-- behind so many turns: the list at D -/
def Cw (X : Cx) (H0 : Hp) (m : Mm) (H1 : Hp) (D : Addr) (Pe : Nat → PD → Prop) (i : Nat) (H' : Hp) : Prop :=
  Kp m.dk H1 H' ∧ MuOk X.K H0 (wide m D) H' ∧ ∃ acc ds, H' D = some (.lst acc) ∧ RpA X.K (wide m D).av H' acc ds ∧ ds.length = i ∧ ∀ j d, ds[j]? = some d → Pe j d
theorem cw_start {H0 H1 : Hp} {D : Addr} {Pe : Nat → PD → Prop} (o1 : MuOk X.K H0 m H1) (hD : H1 D = none) : Cw X H0 m H1 D Pe 0 (upd H1 D (.lst [])) := by
  refine ⟨Kp.new hD, ⟨fun x hx => ?_, ?_⟩, [], [], upd_same, .nil, rfl, fun j d z => by simp at z⟩
  · rcases hx with hx | hx
    · exact (o1.new hD).dom x hx
    · rw [hx, upd_same]
      exact fun z => nomatch z
  · have h := (o1.new (o := .lst []) hD).mu
    obtain ⟨av, mu⟩ := m
    cases mu with
    | no => trivial
    | own q xs =>
      obtain ⟨h1, h2, vs, h3, h4⟩ := o1.mu
      exact ⟨h1, .inl h2, vs, by rw [upd_ne (ne_of_none h3 hD)]; exact h3, RpA.wide (m := ⟨av, .own q xs⟩) (Kp.new hD) o1.dkav hD h4⟩
    | deck q =>
      obtain ⟨h1, h2⟩ := h
      exact ⟨.inl h1, h2⟩
theorem cw_turn {H0 H1 H' : Hp} {av0 : Addr → Prop} {D : Addr} {Pe : Nat → PD → Prop} {σ : L2.St} {scope : Scope} {i j : Nat} {x : V} {d : PD} (en : Env' X.K H0 av0 m σ H1 ρ) (hD : H1 D = none) (hi : i < 1000000) (rx : Rp X.K m.av H1 x d) (he : EB X scope m.mu e (ρ.set j (.im d)) (Pe i)) (c : Cw X H0 m H1 D Pe i H') :
    gName j x (wipe σ [j]) H' fun σ2 H2 => wipe σ2 [j] = wipe σ [j] ∧ tYes σ2 H2 fun b H3 => if b = true then wB X scope e σ2 H3 fun y H4 => ∃ acc, H4 D = some (.lst acc) ∧ acc.length < sizeLine ∧ Cw X H0 m H1 D Pe (i + 1) (upd H4 D (.lst (acc ++ [y]))) else Cw X H0 m H1 D Pe (i + 1) H3 := by
  obtain ⟨k1, o1, acc, ds, hacc, racc, hl, hp⟩ := c
  have hdk : ∀ p, m.dk = some p → p ≠ D := fun p z q => by
    have := en.ok.dom p (en.ok.dkav p z)
    rw [q, hD] at this
    exact this rfl
  refine ⟨?_, iteT (B := Cw X H0 m H1 D Pe (i + 1) H') (show wB X scope e ((wipe σ [j]).set j (some x)) H' _ from fun s Hh C cl fp => ?_)⟩
  · show (((wipe σ []).set j none).set j (some x)).set j none = (wipe σ []).set j none
    rw [List.set_set, List.set_set]
  have en2 : Env' X.K H0 av0 (wide m D) ((wipe σ [j]).set j (some x)) H' (ρ.set j (.im d)) := by
    have e0 : (wipe σ [j]).set j (some x) = σ.set j (some x) := by
      show ((σ).set j none).set j (some x) = _
      rw [List.set_set]
    rw [e0]
    refine Env'.set (m := wide m D) ⟨by rw [wide_dk]; exact en.fr.trans k1, fun q z => .inl (en.sub q z), en.dom0, o1, en.len, fun n sl q => ?_⟩ (rx.wide k1 en.ok.dkav hD)
    obtain ⟨o, h1, h2⟩ := en.at_ n sl q
    refine ⟨o, h1, ?_⟩
    cases sl with
    | no => trivial
    | im d' =>
      obtain ⟨v, e1, r⟩ := h2
      exact ⟨v, e1, r.wide k1 en.ok.dkav hD⟩
    | mu => exact h2
  refine he s Hh C cl fp _ H0 av0 _ H' en2 _ fun v d' H4 k4 o4 r4 p4 => ?_
  have k4' : Kp m.dk H' H4 := by
    have h4 : Kp (wide m D).dk H' H4 := k4
    rw [wide_dk] at h4
    exact h4
  have hacc4 : H4 D = some (.lst acc) := k4' _ _ hacc (fun z => absurd rfl (hdk D z))
  refine ⟨acc, hacc4, Nat.lt_of_lt_of_le (show acc.length < 1000000 by rw [racc.length, hl]; exact hi) (sz_of (Nat.le_refl _)), fun q o eq z => ?_, ⟨fun q hq => ?_, ?_⟩, acc ++ [v], ds ++ [d'], upd_same, ?_, by rw [List.length_append, hl]; rfl, fun j' d2 e2 => ?_⟩
  · rw [upd_ne (ne_of_none eq hD)]
    exact k4' _ _ (k1 q o eq z) z
  · by_cases z : q = D
    · rw [z, upd_same]
      exact fun z => nomatch z
    · rw [upd_ne z]
      exact o4.dom q hq
  · have h := o4.mu
    obtain ⟨av, mu⟩ := m
    cases mu with
    | no => trivial
    | own q xs =>
      obtain ⟨h1, h2, vs, h3, h4⟩ := h
      have hqD : q ≠ D := fun z => by
        obtain ⟨_, _, vs', h3', _⟩ := en.ok.mu
        rw [z, hD] at h3'
        cases h3'
      exact ⟨h1, h2, vs, by rw [upd_ne hqD]; exact h3, RpA.mono (tt_upd hacc4) (fun b ys e1 n1 => ⟨by rw [upd_ne (fun z => n1 (.inr z))]; exact e1, n1⟩) _ _ h4⟩
    | deck q =>
      obtain ⟨h1, ns, h2, h3⟩ := h
      exact ⟨h1, ns, by rw [upd_ne (hdk q rfl)]; exact h2, h3⟩
  · have ra : RpA X.K (wide m D).av H4 (acc ++ [v]) (ds ++ [d']) := (racc.kp (k := m.dk) k4' (fun q z => .inl (en.ok.dkav q z))).append (.one r4)
    exact RpA.mono (tt_upd hacc4) (fun b ys e1 n1 => ⟨by rw [upd_ne (fun z => n1 (.inr z))]; exact e1, n1⟩) _ _ ra
  · by_cases hj : j' < ds.length
    · rw [List.getElem?_append_left hj] at e2
      exact hp j' d2 e2
    · by_cases hj2 : j' = ds.length
      · subst hj2
        rw [List.getElem?_append_right (Nat.le_refl _), Nat.sub_self] at e2
        cases e2
        rw [hl]
        exact p4
      · rw [List.getElem?_eq_none (by rw [List.length_append]; show ds.length + 1 ≤ j'; omega)] at e2
        cases e2
/-- what is behind the comprehension -/
theorem cw_end {H0 H H1 H' : Hp} {D : Addr} {Pe : Nat → PD → Prop} {n : Nat} {Q : VK} (o0 : MuOk X.K H0 m H) (k01 : Kp m.dk H H1) (o1 : MuOk X.K H0 m H1) (hD : H1 D = none)
    (k : ∀ p vs ds H', H p = none → Kp m.dk H H' → MuOk X.K H0 m H' → H' p = some (.lst vs) → RpA X.K m.av H' vs ds → (ds.length = n ∧ ∀ j d, ds[j]? = some d → Pe j d) → Q (.ref p) H') (c : Cw X H0 m H1 D Pe n H') : Q (.ref D) H' := by
  obtain ⟨k1, o2, acc, ds, hacc, racc, hl, hp⟩ := c
  refine k D acc ds H' ?_ (k01.trans k1) ⟨fun q z => o2.dom q (.inl z), ?_⟩ hacc (racc.anti fun q z _ => .inl z) ⟨hl, hp⟩
  · cases e : H D with
    | none => rfl
    | some o =>
      by_cases z : m.dk = some D
      · exact absurd hD (o1.dom D (o1.dkav D z))
      · rw [k01 D o e (fun q => absurd q z)] at hD
        cases hD
  · have h := o2.mu
    obtain ⟨av, mu⟩ := m
    cases mu with
    | no => trivial
    | own q xs =>
      obtain ⟨h1, h2, vs, h3, h4⟩ := h
      exact ⟨h1, o1.mu.2.1, vs, h3, h4.anti fun q z _ => .inl z⟩
    | deck q =>
      obtain ⟨h1, h2⟩ := h
      exact ⟨o1.mu.1, h2⟩
section
variable {elt tg iter : Expr} {scope : Scope} {x : Str} {j : Nat} {Pe : Nat → PD → Prop} {px : Pos}
theorem el_lcT {ds : List PD} (hc : X.calm = true) (hN : X.N.Nodup) (ok : blkC X.N X.env.scope scope [(x, j)] = true) (hg : ∀ (s : Shared) (H : Hp) (C : Addr) (cl : List (Str × Addr)) (fp : List Addr), PG (X.blk s H scope (compEnvC scope cl C X.env) fp) (.Name x px) (gName j))
    (hi : E X m iter ρ (· = .tuple ds)) (hl : ds.length ≤ 1000000) (he : ∀ i d, ds[i]? = some d → EB X scope m.mu elt (ρ.set j (.im d)) (Pe i)) (hs : ∀ x, foldedSetIterable iter X.env x = pure x := by intro _; rfl) :
    EL X m (.ListComp elt [⟨.Name x px, iter, [], 0⟩] scope pos) ρ (fun es => es.length = ds.length ∧ ∀ j d, es[j]? = some d → Pe j d) := fun H0 av0 σ H en Q k =>
  we_of (pe_lc (own := [(x, j)]) hc hN (pi_tup pe_we) (blkOk_by ok) hg (fun _ _ _ _ _ => pts_nil) pe_wB hs) (hi H0 av0 σ H en _ fun v d H1 k1 o1 r1 p1 => by
    subst p1
    cases r1 with
    | tup h1 h2 =>
      rename_i at_ xs
      refine ⟨_, rfl, ⟨_, h1⟩, fun D hD => lc_tup (K := X.K) (xs := xs) (fun i H' => Cw X H0 m H1 D Pe i H') (cw_start o1 hD) (fun i H' _ c => c.1.sqT h1) (fun i y H' hy c => ?_) (fun H' c => ?_)⟩
      · obtain ⟨d, hd, rd⟩ := h2.get hy
        exact cw_turn (en.step k1 o1) hD (Nat.lt_of_lt_of_le (List.getElem?_eq_some_iff.mp hd).1 hl) rd (he i d hd) c
      · rw [h2.length] at c
        exact cw_end en.ok k1 o1 hD k c)
theorem el_lcL {ds : List PD} (hc : X.calm = true) (hN : X.N.Nodup) (ok : blkC X.N X.env.scope scope [(x, j)] = true) (hg : ∀ (s : Shared) (H : Hp) (C : Addr) (cl : List (Str × Addr)) (fp : List Addr), PG (X.blk s H scope (compEnvC scope cl C X.env) fp) (.Name x px) (gName j))
    (hi : E X m iter ρ (· = .list ds)) (hl : ds.length ≤ 1000000) (he : ∀ i d, ds[i]? = some d → EB X scope m.mu elt (ρ.set j (.im d)) (Pe i)) (hs : ∀ x, foldedSetIterable iter X.env x = pure x := by intro _; rfl) :
    EL X m (.ListComp elt [⟨.Name x px, iter, [], 0⟩] scope pos) ρ (fun es => es.length = ds.length ∧ ∀ j d, es[j]? = some d → Pe j d) := fun H0 av0 σ H en Q k =>
  we_of (pe_lc (own := [(x, j)]) hc hN (pi_list pe_we) (blkOk_by ok) hg (fun _ _ _ _ _ => pts_nil) pe_wB hs) (hi H0 av0 σ H en _ fun v d H1 k1 o1 r1 p1 => by
    subst p1
    cases r1 with
    | lst h1 h3 h2 =>
      rename_i at_ xs
      refine ⟨_, rfl, ⟨_, SqL.of h1⟩, fun D hD => lc_list (K := X.K) (xs := xs) (fun i H' => Cw X H0 m H1 D Pe i H') (cw_start o1 hD) (fun i H' _ c => SqL.of (c.1 _ _ h1 (fun z => absurd (o1.dkav _ z) h3))) (fun i y H' hy c => ?_) (fun H' c => ?_)⟩
      · obtain ⟨d, hd, rd⟩ := h2.get hy
        exact cw_turn (en.step k1 o1) hD (Nat.lt_of_lt_of_le (List.getElem?_eq_some_iff.mp hd).1 hl) rd (he i d hd) c
      · rw [h2.length] at c
        exact cw_end en.ok k1 o1 hD k c)
/-- over range(n), n of a kind -/
theorem el_lcRP {P : PD → Prop} {R : Nat → Prop} (hc : X.calm = true) (hN : X.N.Nodup) (ok : blkC X.N X.env.scope scope [(x, j)] = true) (hg : ∀ (s : Shared) (H : Hp) (C : Addr) (cl : List (Str × Addr)) (fp : List Addr), PG (X.blk s H scope (compEnvC scope cl C X.env) fp) (.Name x px) (gName j))
    (hm : X.mg "range" = none) (hi : E X m a ρ P) (hp : ∀ d, P d → ∃ n : Nat, d = .int n ∧ n ≤ 1000000 ∧ R n) (he : ∀ i : Nat, EB X scope m.mu elt (ρ.set j (.im (.int i))) (Pe i)) (hgR : Gl X "range" := by rfl) (hst : starEach [a] X.env = [(false, eval a X.env)] := by rfl) (hs : ∀ x, foldedSetIterable (.Call (.Name "range" p) [a] [] p2) X.env x = pure x := by intro _; rfl) :
    EL X m (.ListComp elt [⟨.Name x px, .Call (.Name "range" p) [a] [] p2, [], 0⟩] scope pos) ρ (fun es => R es.length ∧ ∀ j d, es[j]? = some d → Pe j d) := fun H0 av0 σ H en Q k =>
  we_of (pe_lc (own := [(x, j)]) hc hN (pi_range1 hgR hm (pa_cons pe_we pa_nil hst) hst) (blkOk_by ok) hg (fun _ _ _ _ _ => pts_nil) pe_wB hs) (hi H0 av0 σ H en _ fun v d H1 k1 o1 r1 p1 => by
    obtain ⟨n, rfl, hn, hR⟩ := hp d p1
    cases r1
    refine ⟨n, rfl, by omega, by omega, fun D hD => ?_⟩
    rw [Int.toNat_natCast]
    refine lc_range (lo := 0) (n := n) (fun i H' => Cw X H0 m H1 D Pe i H') (cw_start o1 hD) (fun i H' hi' c => ?_) (fun H' c => ?_)
    · rw [Int.zero_add]
      exact cw_turn (en.step k1 o1) hD (by omega) (.int i) (he i) c
    · exact cw_end en.ok k1 o1 hD (fun p vs ds H' h1 h2 h3 h4 h5 h6 => k p vs ds H' h1 h2 h3 h4 h5 ⟨by rw [h6.1]; exact hR, h6.2⟩) c)
/-- over the signs of a text -/
theorem el_lcS {z : Str} (hc : X.calm = true) (hN : X.N.Nodup) (ok : blkC X.N X.env.scope scope [(x, j)] = true) (hg : ∀ (s : Shared) (H : Hp) (C : Addr) (cl : List (Str × Addr)) (fp : List Addr), PG (X.blk s H scope (compEnvC scope cl C X.env) fp) (.Name x px) (gName j))
    (hi : E X m iter ρ (· = .str z)) (hl : z.length ≤ 1000000) (he : ∀ i (c : Nat), z.cps[i]? = some c → EB X scope m.mu elt (ρ.set j (.im (.str ⟨#[c]⟩))) (Pe i)) (hs : ∀ x, foldedSetIterable iter X.env x = pure x := by intro _; rfl) :
    EL X m (.ListComp elt [⟨.Name x px, iter, [], 0⟩] scope pos) ρ (fun es => es.length = z.cps.size ∧ ∀ j d, es[j]? = some d → Pe j d) := fun H0 av0 σ H en Q k =>
  we_of (pe_lc (own := [(x, j)]) hc hN (pi_str pe_we) (blkOk_by ok) hg (fun _ _ _ _ _ => pts_nil) pe_wB hs) (hi H0 av0 σ H en _ fun v d H1 k1 o1 r1 p1 => by
    subst p1
    cases r1
    refine ⟨z, rfl, fun D hD => ?_⟩
    refine ⟨fun i n H' => n = z.cps.size - i ∧ i ≤ z.cps.size ∧ Cw X H0 m H1 D Pe i H', ⟨_, rfl, Nat.zero_le _, cw_start o1 hD⟩, ?_⟩
    rintro i n H' ⟨rfl, hi', c⟩
    by_cases hlt : i < z.cps.size
    · refine .inr ⟨hlt, fun H' => Cw X H0 m H1 D Pe (i + 1) H', fun H' c' => ⟨_, by omega, rfl, hlt, c'⟩, fun y H' hy => ?_⟩
      obtain ⟨rfl, cc, hcc, rfl⟩ := hy
      exact cw_turn (en.step k1 o1) hD (Nat.lt_of_lt_of_le hlt hl) (.str _) (he i cc hcc) c
    · have ei : i = z.cps.size := by omega
      subst ei
      exact .inl ⟨Nat.le_refl _, cw_end en.ok k1 o1 hD k c⟩)
end
/-- the list told outright -/
theorem list_of_get {n : Nat} {f : Nat → PD} {es : List PD} (h : es.length = n ∧ ∀ j d, es[j]? = some d → d = f j) : es = (List.range n).map f := by
  apply List.ext_getElem?
  intro i
  by_cases hi : i < n
  · have : es[i]? = some (es[i]'(by omega)) := List.getElem?_eq_getElem (by omega)
    rw [this, h.2 i _ this, List.getElem?_map, List.getElem?_range hi] <;> rfl
  · rw [List.getElem?_eq_none (by omega), List.getElem?_eq_none (by rw [List.length_map, List.length_range]; omega)]
theorem list_of_map {α : Type} {xs : List α} {f : α → PD} {es : List PD} (h : es.length = xs.length ∧ ∀ (j : Nat) d, es[j]? = some d → ∃ x, xs[j]? = some x ∧ d = f x) : es = xs.map f := by
  apply List.ext_getElem?
  intro i
  by_cases hi : i < xs.length
  · have e1 : es[i]? = some (es[i]'(by omega)) := List.getElem?_eq_getElem (by omega)
    obtain ⟨x, e2, e3⟩ := h.2 i _ e1
    rw [e1, List.getElem?_map, e2, e3] <;> rfl
  · rw [List.getElem?_eq_none (by omega), List.getElem?_eq_none (by rw [List.length_map]; omega)]
end
end Tk
end
section
namespace Tk
open PySem PySem.Spec PyProof.Rows L2
/-- what is wanted behind a statement, by data -/
structure Nd where
  nx : Mm → List Sl → Prop
  rt : Mm → PD → Prop
  bk : Mm → List Sl → Prop := fun _ _ => False
  ct : Mm → List Sl → Prop := fun _ _ => False
  ex : Addr → Prop := fun _ => False
/-- tuples stay -/
abbrev Kt (K : PySem.W.Frag) (H H' : Hp) : Prop := TupK K H H'
theorem Kt.refl (K : PySem.W.Frag) (H : Hp) : Kt K H H := TupK.refl K H
theorem Kt.trans {K : PySem.W.Frag} {H H1 H2 : Hp} (a : Kt K H H1) (b : Kt K H1 H2) : Kt K H H2 := TupK.trans a b
theorem Kp.kt {K : PySem.W.Frag} {k : Option Addr} {H H' : Hp} (s : Kp k H H') : Kt K H H' := s.tt
structure EndsOk (X : Cx) (H0 : Hp) (av0 : Addr → Prop) (Hs : Hp) (D : Nd) (EE : Ends) : Prop where
  nx : ∀ m ρ σ H, D.nx m ρ → Env' X.K H0 av0 m σ H ρ → Kt X.K Hs H → EE.nx σ H
  bk : ∀ m ρ σ H, D.bk m ρ → Env' X.K H0 av0 m σ H ρ → Kt X.K Hs H → EE.bk σ H
  ct : ∀ m ρ σ H, D.ct m ρ → Env' X.K H0 av0 m σ H ρ → Kt X.K Hs H → EE.ct σ H
  rt : ∀ m v d H, D.rt m d → Kp m.dk H0 H → MuOk X.K H0 m H → (∀ a, av0 a → m.av a) → Rp X.K m.av H v d → EE.rt v H
  ex : ∀ C, D.ex C → ∀ σ H, Same H0 H → ∃ W : WX, Takes X W ∧ W (.ref C) none σ H
theorem EndsOk.from {X : Cx} {H0 Hs H1 : Hp} {av0 : Addr → Prop} {D : Nd} {EE : Ends} (h : EndsOk X H0 av0 Hs D EE) (k : Kt X.K Hs H1) : EndsOk X H0 av0 H1 D EE :=
  ⟨fun m ρ σ H q en z => h.nx m ρ σ H q en (k.trans z), fun m ρ σ H q en z => h.bk m ρ σ H q en (k.trans z), fun m ρ σ H q en z => h.ct m ρ σ H q en (k.trans z), h.rt, h.ex⟩
def S (X : Cx) (st : Stmt) (m : Mm) (ρ : List Sl) (D : Nd) : Prop := ∀ H0 av0 σ H, Env' X.K H0 av0 m σ H ρ → ∀ EE, EndsOk X H0 av0 H D EE → WS X st EE σ H
def SS (X : Cx) (st : List Stmt) (m : Mm) (ρ : List Sl) (D : Nd) : Prop := ∀ H0 av0 σ H, Env' X.K H0 av0 m σ H ρ → ∀ EE, EndsOk X H0 av0 H D EE → WSs X st EE σ H
section
variable {X : Cx} {m : Mm} {e a b : Expr} {es : List Expr} {ρ : List Sl} {P : PD → Prop} {pos p p2 : Pos} {k : Nat} {D : Nd} {st : Stmt} {rest body : List Stmt}
theorem EndsOk.cons {H0 Hs : Hp} {av0 : Addr → Prop} {EE : Ends} (h : EndsOk X H0 av0 Hs D EE) : EndsOk X H0 av0 Hs { D with nx := fun m ρ => SS X rest m ρ D } { EE with nx := WSs X rest EE } :=
  ⟨fun m ρ σ H q en z => q H0 av0 σ H en EE (h.from z), h.bk, h.ct, h.rt, h.ex⟩
theorem ss_cons (h : S X st m ρ { D with nx := fun m ρ => SS X rest m ρ D }) : SS X (st :: rest) m ρ D := fun H0 av0 σ H en EE k =>
  wss_of (pss_cons ps_ws pss_ws) (h H0 av0 σ H en _ k.cons)
theorem ss_one (h : S X st m ρ D) : SS X [st] m ρ D := fun H0 av0 σ H en EE k => wss_of (pss_one ps_ws) (h H0 av0 σ H en EE k)
theorem ss_nil (h : D.nx m ρ) : SS X [] m ρ D := fun H0 av0 σ H en EE k => wss_of pss_nil (k.nx m ρ σ H h en (Kt.refl _ _))
theorem s_setP (i : Nat) {x : Str} (hN : X.N.Nodup) (he : E X m e ρ P) (h : ∀ d, P d → D.nx m (ρ.set i (.im d))) (hi : X.N[i]? = some x := by rfl) (hx : Loc X.env.scope x := by first | exact Or.inl rfl | exact Or.inr rfl) (hs : swapsWith e (some (.Name x p2)) pos.line X.env = pure false := by rfl)
    (hf : X.fn x = true ∨ X.env.scope.names.lookup x = some .local := by first | exact .inl rfl | exact .inr rfl) : S X (.Assign [.Name x p2] e pos) m ρ D := fun H0 av0 σ H en EE k =>
  ws_of (ps_set hN hi hx pe_we hs hf) (he H0 av0 σ H en _ fun v d H1 k1 o1 r1 p1 => k.nx m _ _ H1 (h d p1) ((en.step k1 o1).set r1) k1.kt)
theorem s_set (i : Nat) {x : Str} {d : PD} (hN : X.N.Nodup) (he : E X m e ρ (· = d)) (h : D.nx m (ρ.set i (.im d))) (hi : X.N[i]? = some x := by rfl) (hx : Loc X.env.scope x := by first | exact Or.inl rfl | exact Or.inr rfl) (hs : swapsWith e (some (.Name x p2)) pos.line X.env = pure false := by rfl)
    (hf : X.fn x = true ∨ X.env.scope.names.lookup x = some .local := by first | exact .inl rfl | exact .inr rfl) : S X (.Assign [.Name x p2] e pos) m ρ D :=
  s_setP i hN he (fun d' e' => by rw [e']; exact h) hi hx hs hf
/-- a new list to a name that owns it -/
def ownM (m : Mm) (p : Addr) (ds : List PD) : Mm := ⟨fun a => m.av a ∨ a = p, .own p ds⟩
theorem own_env {H0 H H1 : Hp} {av0 : Addr → Prop} {σ : L2.St} {p : Addr} {vs : List V} {ds : List PD} {i : Nat} (hmu : m.mu = .no) (en : Env' X.K H0 av0 m σ H ρ) (hp : H p = none) (k1 : Kp m.dk H H1) (o1 : MuOk X.K H0 m H1) (h1 : H1 p = some (.lst vs)) (r1 : RpA X.K m.av H1 vs ds)
    (self : ∀ d : PD, True) (hr : RpA X.K (ownM m p ds).av H1 vs ds) : Env' X.K H0 av0 (ownM m p ds) (σ.set i (some (.ref p))) H1 (ρ.set i .mu) := by
  have edk : m.dk = none := by
    obtain ⟨av, mu⟩ := m
    cases hmu
    rfl
  have k0 : Kp none H H1 := by rw [← edk]; exact k1
  have h00 : H0 p = none := by
    cases q : H0 p with
    | none => rfl
    | some o =>
      have := en.fr p o q (by rw [edk]; exact fun z => nomatch z)
      rw [hp] at this
      cases this
  refine ⟨?_, fun q z => .inl (en.sub q z), en.dom0, ⟨fun q z => ?_, h00, .inr rfl, vs, h1, hr⟩, by rw [List.length_set, List.length_set, en.len], fun j s q => ?_⟩
  · have := en.fr.trans k1
    rw [edk] at this
    exact this
  · rcases z with z | z
    · exact o1.dom q z
    · rw [z, h1]
      exact fun z => nomatch z
  · by_cases hj : i = j
    · subst hj
      by_cases hl : i < ρ.length
      · rw [List.getElem?_set_self hl] at q
        cases q
        exact ⟨_, List.getElem?_set_self (by rw [en.len]; exact hl), rfl⟩
      · rw [List.getElem?_eq_none (by rw [List.length_set]; omega)] at q
        cases q
    · rw [List.getElem?_set_ne hj] at q
      obtain ⟨o, e1, e2⟩ := en.at_ j s q
      refine ⟨o, by rw [List.getElem?_set_ne hj]; exact e1, ?_⟩
      cases s with
      | no => trivial
      | im d =>
        obtain ⟨v, e3, r⟩ := e2
        exact ⟨v, e3, Rp.mono k0.tt (fun a xs e n => ⟨k0 _ _ e (fun z => nomatch z), fun z => z.elim n fun q => by rw [q, hp] at e; cases e⟩) d v r⟩
      | mu =>
        obtain ⟨av, mu⟩ := m
        cases hmu
        exact e2.elim
/-- no lists within -/
def flatD : Nat → PD → Prop
  | 0, d => match d with
    | .tuple _ => False
    | .list _ => False
    | .dict _ => False
    | _ => True
  | n + 1, d => match d with
    | .tuple ds => ∀ d ∈ ds, flatD n d
    | .list _ => False
    | .dict _ => False
    | _ => True
theorem flatA_any {K : PySem.W.Frag} {av av' : Addr → Prop} {H : Hp} {n : Nat} (ih : ∀ d v, flatD n d → Rp K av H v d → Rp K av' H v d) : ∀ (ds : List PD) (vs : List V), (∀ d ∈ ds, flatD n d) → RpA K av H vs ds → RpA K av' H vs ds
  | [], _, _, r => by cases r; exact .nil
  | d :: ds, _, h, r => by
    cases r with
    | cons r1 r2 => exact .cons (ih d _ (h d List.mem_cons_self) r1) (flatA_any ih ds _ (fun x hx => h x (List.mem_cons_of_mem _ hx)) r2)
theorem flat_any {K : PySem.W.Frag} {av av' : Addr → Prop} {H : Hp} : ∀ (n : Nat) (d : PD) (v : V), flatD n d → Rp K av H v d → Rp K av' H v d
  | 0, d, v, h, r => by
    cases r with
    | non => exact .non
    | bl b => exact .bl b
    | int i => exact .int i
    | str x => exact .str x
    | tx _ => exact h.elim
    | lst _ _ _ => exact h.elim
    | tup _ _ => exact h.elim
  | n + 1, d, v, h, r => by
    cases r with
    | non => exact .non
    | bl b => exact .bl b
    | int i => exact .int i
    | str x => exact .str x
    | tx _ => exact h.elim
    | lst _ _ _ => exact h.elim
    | tup h1 h2 => exact .tup h1 (flatA_any (flat_any n) _ _ h h2)
theorem s_setL (i : Nat) {x : Str} {n : Nat} {ds : List PD} (hN : X.N.Nodup) (hmu : m.mu = .no) (he : EL X m e ρ (· = ds)) (hfl : ∀ d ∈ ds, flatD n d) (h : ∀ p, D.nx (ownM m p ds) (ρ.set i .mu)) (hi : X.N[i]? = some x := by rfl) (hx : Loc X.env.scope x := by first | exact Or.inl rfl | exact Or.inr rfl) (hs : swapsWith e (some (.Name x p2)) pos.line X.env = pure false := by rfl)
    (hf : X.fn x = true ∨ X.env.scope.names.lookup x = some .local := by first | exact .inl rfl | exact .inr rfl) : S X (.Assign [.Name x p2] e pos) m ρ D := fun H0 av0 σ H en EE k =>
  ws_of (ps_set hN hi hx pe_we hs hf) (he H0 av0 σ H en _ fun p vs ds' H1 hp k1 o1 h1 r1 e1 => by
    subst e1
    exact k.nx _ _ _ H1 (h p) (own_env hmu en hp k1 o1 h1 r1 (fun _ => trivial) (flatA_any (flat_any n) _ _ hfl r1)) k1.kt)
/-- an own list stands still from here on -/
theorem ss_freeze {p : Addr} {ds : List PD} {i : Nat} (hm : m.mu = .own p ds) (hi : ρ[i]? = some .mu) (ho : ∀ j, j ≠ i → ρ[j]? ≠ some .mu) (h : ∀ av, SS X body ⟨av, .no⟩ (ρ.set i (.im (.list ds))) D) : SS X body m ρ D := fun H0 av0 σ H en EE k => by
  obtain ⟨av, mu⟩ := m
  cases hm
  obtain ⟨h1, h2, vs, h3, h4⟩ := en.ok.mu
  refine h (fun a => av a ∧ a ≠ p) H0 av0 σ H ⟨en.fr, fun a z => ⟨en.sub a z, fun q => en.dom0 a z (by rw [q]; exact h1)⟩, en.dom0, ⟨fun a z => en.ok.dom a z.1, trivial⟩, by rw [List.length_set]; exact en.len, fun j s q => ?_⟩ EE k
  by_cases hj : i = j
  · subst hj
    obtain ⟨o, e1, e2⟩ := en.at_ i .mu hi
    rw [List.getElem?_set_self (List.getElem?_eq_some_iff.mp hi).1] at q
    cases q
    have e3 : o = some (.ref p) := e2
    exact ⟨o, e1, .ref p, e3, .lst h3 (fun z => z.2 rfl) (h4.anti fun a z _ => z.1)⟩
  · rw [List.getElem?_set_ne hj] at q
    obtain ⟨o, e1, e2⟩ := en.at_ j s q
    refine ⟨o, e1, ?_⟩
    cases s with
    | no => trivial
    | im d =>
      obtain ⟨v, e3, r⟩ := e2
      exact ⟨v, e3, r.anti fun a z _ => z.1⟩
    | mu => exact absurd q (ho j (fun z => hj z.symm))
/-- len of the own list -/
theorem e_lenMu (i : Nat) {q : Addr} {ds : List PD} {x : Str} (hm : m.mu = .own q ds) (hl : X.mg "len" = none) (hρ : ρ[i]? = some .mu := by rfl) (hg : Gl X "len" := by rfl) (hN : X.N[i]? = some x := by rfl) (hv : Vis X.env.scope x := by first | exact Or.inl rfl | exact Or.inr (Or.inl rfl) | exact Or.inr (Or.inr rfl)) (hd : (x == ("__debug__" : Str)) = false := by decide) (hcd : (x == ("__classdict__" : Str)) = false := by decide)
    (he : starEach [.Name x p2] X.env = (false, eval (.Name x p2) X.env) :: starEach [] X.env := by rfl) : E X m (.Call (.Name "len" p) [.Name x p2] [] pos) ρ (· = .int ds.length) := fun H0 av0 σ H en Q k => by
  obtain ⟨o, h1, h2⟩ := en.at_ i _ hρ
  have ok := en.ok
  obtain ⟨av, mu⟩ := m
  cases hm
  have e2 : o = some (.ref q) := h2
  obtain ⟨_, _, vs, h3, h4⟩ := ok.mu
  refine we_of (pe_callB call_len hg hl PySem.boot_len (pa_cons (pe_var hN hv hd hcd) pa_nil he) (by decide) (by decide) he) ?_
  refine ⟨.ref q, by rw [h1, e2], .ref q, vs.length, rfl, .inl ⟨vs, SqL.of h3, rfl⟩, ?_⟩
  rw [h4.length]
  exact k _ _ H (Kp.refl _ _) en.ok (.int _) rfl
theorem upd_own {H0 H : Hp} {av0 : Addr → Prop} {σ : L2.St} {q : Addr} {ds ds' : List PD} {av : Addr → Prop} {vs : List V} (en : Env' X.K H0 av0 ⟨av, .own q ds⟩ σ H ρ) (hr : RpA X.K av H vs ds') : Env' X.K H0 av0 ⟨av, .own q ds'⟩ σ (upd H q (.lst vs)) ρ := by
  obtain ⟨h1, h2, us, h3, h4⟩ := en.ok.mu
  have hT : TupK X.K H (upd H q (.lst vs)) := tt_upd h3
  have hL : ∀ a xs, H a = some (.lst xs) → ¬ av a → (upd H q (.lst vs)) a = some (.lst xs) ∧ ¬ av a := fun a xs z n => ⟨by rw [upd_ne (fun w => n (by rw [w]; exact h2))]; exact z, n⟩
  refine ⟨fun a o z w => ?_, en.sub, en.dom0, ⟨fun a z => ?_, h1, h2, vs, upd_same, RpA.mono hT hL _ _ hr⟩, en.len, fun j s z => ?_⟩
  · rw [upd_ne (fun w => by rw [w, h1] at z; cases z)]
    exact en.fr a o z w
  · by_cases w : a = q
    · rw [w, upd_same]
      exact fun z => nomatch z
    · rw [upd_ne w]
      exact en.ok.dom a z
  · obtain ⟨o, e1, e2⟩ := en.at_ j s z
    refine ⟨o, e1, ?_⟩
    cases s with
    | no => trivial
    | im d =>
      obtain ⟨v, e3, r⟩ := e2
      exact ⟨v, e3, Rp.mono hT hL _ _ r⟩
    | mu => exact e2
theorem kt_own {H0 H : Hp} {av0 : Addr → Prop} {σ : L2.St} {q : Addr} {ds : List PD} {av : Addr → Prop} {vs : List V} (en : Env' X.K H0 av0 ⟨av, .own q ds⟩ σ H ρ) : Kt X.K H (upd H q (.lst vs)) := by
  obtain ⟨_, _, us, h3, _⟩ := en.ok.mu
  exact tt_upd h3
theorem s_append (i : Nat) {q : Addr} {ds : List PD} {d : PD} {x : Str} {apos : Pos} (hm : m.mu = .own q ds) (hl : ds.length < 1000000) (ha : E X m a ρ (· = d)) (h : D.nx ⟨m.av, .own q (ds ++ [d])⟩ ρ) (hρ : ρ[i]? = some .mu := by rfl) (hN : X.N[i]? = some x := by rfl) (hv : Vis X.env.scope x := by first | exact Or.inl rfl | exact Or.inr (Or.inl rfl) | exact Or.inr (Or.inr rfl)) (hd : (x == ("__debug__" : Str)) = false := by decide) (hcd : (x == ("__classdict__" : Str)) = false := by decide)
    (he : starEach [a] X.env = (false, eval a X.env) :: starEach [] X.env := by rfl)
    (hbase : attributeBase (.Name x p) "append" X.env (eval (.Name x p) X.env) = eval (.Name x p) X.env := by rfl)
    (hfew : ((backTo p2 (starEach [a] X.env)).all (fun x => !x.1) && (backToKw p2 (keywordEach [] X.env)).all (fun x => x.1.isSome) && decide ([a].length + ([] : List Keyword).length + (if ([] : List Keyword).isEmpty then 0 else 1) < 30)) = true := by rfl)
    (hline : (apos.endLine == p2.line) = true := by rfl) (hs : swapsWith (.Call (.Attribute (.Name x p) "append" apos) [a] [] p2) none pos.line X.env = pure false := by rfl) (hplain : (backTo p2 (starEach [] X.env)).any (·.1) = false := by rfl) : S X (.Expr (.Call (.Attribute (.Name x p) "append" apos) [a] [] p2) pos) m ρ D := fun H0 av0 σ H en EE k => by
  obtain ⟨o, h1, h2⟩ := en.at_ i _ hρ
  obtain ⟨av, mu⟩ := m
  cases hm
  have e2 : o = some (.ref q) := h2
  obtain ⟨_, _, us, h3, h4⟩ := en.ok.mu
  refine ws_of (ps_expr (pe_bm PySem.F.plainAttrs_list PySem.F.slot_list_append PySem.F.type_list_append mt_append (pe_var hN hv hd hcd) (pa_cons pe_we pa_nil he) hbase hfew hline he hplain) hs) ?_
  refine ⟨.ref q, by rw [h1, e2], .inl ⟨rfl, us, SqL.of h3⟩, ha H0 av0 σ H en _ fun v d' H1 k1 o1 r1 p1 => ?_⟩
  subst p1
  obtain ⟨_, _, ws, h5, h6⟩ := o1.mu
  refine ⟨q, ws, v, rfl, rfl, h5, Nat.lt_of_lt_of_le (show ws.length < 1000000 by rw [h6.length]; exact hl) (sz_of (Nat.le_refl _)), ?_⟩
  exact k.nx _ _ _ _ h (upd_own (en.step k1 o1) (h6.append (.one r1))) (k1.kt.trans (kt_own (en.step k1 o1)))
theorem s_insert0 (i : Nat) {q : Addr} {ds : List PD} {d : PD} {x : Str} {apos : Pos} (hm : m.mu = .own q ds) (hl : ds.length < 1000000) (ha : E X m a ρ (· = .int 0)) (hb : E X m b ρ (· = d)) (h : D.nx ⟨m.av, .own q (d :: ds)⟩ ρ) (hρ : ρ[i]? = some .mu := by rfl) (hN : X.N[i]? = some x := by rfl) (hv : Vis X.env.scope x := by first | exact Or.inl rfl | exact Or.inr (Or.inl rfl) | exact Or.inr (Or.inr rfl)) (hd : (x == ("__debug__" : Str)) = false := by decide) (hcd : (x == ("__classdict__" : Str)) = false := by decide)
    (he : starEach [a, b] X.env = (false, eval a X.env) :: starEach [b] X.env := by rfl) (he2 : starEach [b] X.env = (false, eval b X.env) :: starEach [] X.env := by rfl)
    (hbase : attributeBase (.Name x p) "insert" X.env (eval (.Name x p) X.env) = eval (.Name x p) X.env := by rfl)
    (hfew : ((backTo p2 (starEach [a, b] X.env)).all (fun x => !x.1) && (backToKw p2 (keywordEach [] X.env)).all (fun x => x.1.isSome) && decide ([a, b].length + ([] : List Keyword).length + (if ([] : List Keyword).isEmpty then 0 else 1) < 30)) = true := by rfl)
    (hline : (apos.endLine == p2.line) = true := by rfl) (hs : swapsWith (.Call (.Attribute (.Name x p) "insert" apos) [a, b] [] p2) none pos.line X.env = pure false := by rfl) (hplain : (backTo p2 (starEach [b] X.env)).any (·.1) = false := by rfl) : S X (.Expr (.Call (.Attribute (.Name x p) "insert" apos) [a, b] [] p2) pos) m ρ D := fun H0 av0 σ H en EE k => by
  obtain ⟨o, h1, h2⟩ := en.at_ i _ hρ
  obtain ⟨av, mu⟩ := m
  cases hm
  have e2 : o = some (.ref q) := h2
  obtain ⟨_, _, us, h3, h4⟩ := en.ok.mu
  refine ws_of (ps_expr (pe_bm PySem.F.plainAttrs_list PySem.F.slot_list_insert PySem.F.type_list_insert mt_insert (pe_var hN hv hd hcd) (pa_cons pe_we (pa_cons pe_we pa_nil he2) he) hbase hfew hline he hplain) hs) ?_
  refine ⟨.ref q, by rw [h1, e2], .inl ⟨rfl, us, SqL.of h3⟩, ha H0 av0 σ H en _ fun v0 d0 H1 k1 o1 r0 p0 => hb H0 av0 σ H1 (en.step k1 o1) _ fun v d' H2 k2 o2 r2 p1 => ?_⟩
  subst p0 p1
  cases r0
  obtain ⟨_, _, ws, h5, h6⟩ := o2.mu
  refine ⟨q, ws, 0, v, rfl, rfl, h5, Nat.lt_of_lt_of_le (show ws.length < 1000000 by rw [h6.length]; exact hl) (sz_of (Nat.le_refl _)), by decide, by decide, ?_⟩
  exact k.nx _ _ _ _ h (upd_own ((en.step k1 o1).step k2 o2) (.cons r2 h6)) ((k1.trans k2).kt.trans (kt_own ((en.step k1 o1).step k2 o2)))
/-! ### plain statements -/
theorem s_if {c : Bool} {b' : List Stmt} (ht : T X m e ρ c) (h1 : c = true → SS X body m ρ D) (h2 : c = false → SS X b' m ρ D) : S X (.If e body b' pos) m ρ D := fun H0 av0 σ H en EE k =>
  ws_of (ps_if pt_wt pss_ws pss_ws) (ht H0 av0 σ H en _ fun H1 k1 o1 => by
    cases c with
    | true => exact iteT (h1 rfl H0 av0 σ H1 (en.step k1 o1) EE (k.from k1.kt))
    | false => exact iteF (h2 rfl H0 av0 σ H1 (en.step k1 o1) EE (k.from k1.kt)))
theorem s_retP (he : E X m e ρ P) (h : ∀ d, P d → D.rt m d) : S X (.Return (some e) pos) m ρ D := fun H0 av0 σ H en EE k =>
  ws_of (ps_ret pe_we) (he H0 av0 σ H en _ fun v d H1 k1 o1 r1 p1 => k.rt m v d H1 (h d p1) (en.fr.trans k1) o1 en.sub r1)
theorem s_ret {d : PD} (he : E X m e ρ (· = d)) (h : D.rt m d) : S X (.Return (some e) pos) m ρ D := s_retP he fun d' e' => by rw [e']; exact h
theorem s_augI (i : Nat) {x : Str} {op : Operator} {f : Int → Int → Int} {n j : Int} (hN : X.N.Nodup) (ho : PIp X op (ipI f)) (he : E X m e ρ (· = .int j)) (h : D.nx m (ρ.set i (.im (.int (f n j))))) (hρ : ρ[i]? = some (.im (.int n)) := by rfl) (hi : X.N[i]? = some x := by rfl) (hx : Loc X.env.scope x := by first | exact Or.inl rfl | exact Or.inr rfl)
    (hf : X.fn x = true ∨ X.env.scope.names.lookup x = some .local := by first | exact .inl rfl | exact .inr rfl) : S X (.AugAssign (.Name x p2) op e pos) m ρ D := fun H0 av0 σ H en EE k => by
  obtain ⟨o, h1, v, rfl, r⟩ := en.at_ i _ hρ
  cases r
  refine ws_of (ps_aug hN hi hx pe_we ho hf) ⟨.int n, h1, he H0 av0 σ H en _ fun v d H1 k1 o1 r1 p1 => ?_⟩
  subst p1
  cases r1
  exact ⟨n, j, rfl, rfl, k.nx m _ _ H1 h ((en.step k1 o1).set (.int _)) k1.kt⟩
/-- (a, b, ..) = data -/
def setAll : List Nat → List PD → List Sl → List Sl
  | i :: is, d :: ds, ρ => setAll is ds (ρ.set i (.im d))
  | _, _, ρ => ρ
def gNames : List Nat → TGs
  | [] => gNil
  | i :: is => gCons (gName i) (gNames is)
theorem gNames_ok {H0 : Hp} {av0 : Addr → Prop} : ∀ (is : List Nat) (ds : List PD) (vs : List V) (σ : L2.St) (H : Hp) (ρ : List Sl) (Q : L2.St → Hp → Prop), is.length = ds.length → RpA X.K m.av H vs ds → Env' X.K H0 av0 m σ H ρ → (∀ σ', Env' X.K H0 av0 m σ' H (setAll is ds ρ) → Q σ' H) → gNames is vs σ H Q
  | [], [], vs, σ, H, ρ, Q, _, r, en, k => by
    cases r
    exact ⟨rfl, k σ en⟩
  | i :: is, d :: ds, vs, σ, H, ρ, Q, hl, r, en, k => by
    cases r with
    | cons r1 r2 => exact ⟨_, _, rfl, gNames_ok is ds _ _ H _ Q (by simpa using hl) r2 (en.set r1) k⟩
  | [], _ :: _, _, _, _, _, _, hl, _, _, _ => by simp at hl
  | _ :: _, [], _, _, _, _, _, hl, _, _, _ => by simp at hl
theorem s_unp (is : List Nat) {ts : List Expr} {k' : Nat} {ds : List PD} (hg : PG X (.Tuple ts k' p2) (gTup X.K is.length (gNames is))) (he : E X m e ρ (· = .tuple ds)) (hl : is.length = ds.length) (h : D.nx m (setAll is ds ρ))
    (hs : swapsWithSole [.Tuple ts k' p2] e pos.line X.env = pure false := by rfl) (hw : swappedStores [.Tuple ts k' p2] e X.env = pure none := by rfl) (h1 : (assignEach [.Tuple ts k' p2] X.env).map (·.2) = [assign (.Tuple ts k' p2) X.env] := by rfl) : S X (.Assign [.Tuple ts k' p2] e pos) m ρ D := fun H0 av0 σ H en EE k =>
  ws_of (ps_asg pe_we hg hs hw h1) (he H0 av0 σ H en _ fun v d H1 k1 o1 r1 p1 => by
    subst p1
    cases r1 with
    | tup h1 h2 => exact ⟨_, _, rfl, h1, by rw [h2.length, hl], gNames_ok is ds _ σ H1 ρ _ hl h2 (en.step k1 o1) fun σ' en' => k.nx m _ σ' H1 h en' k1.kt⟩)
/-! ### loops -/
/-- what holds between two turns -/
def Lp (X : Cx) (H0 : Hp) (av0 : Addr → Prop) (Hs : Hp) (I : Mm → List Sl → Prop) (σ : L2.St) (H : Hp) : Prop := ∃ m ρ, I m ρ ∧ Env' X.K H0 av0 m σ H ρ ∧ Kt X.K Hs H
theorem EndsOk.loop {H0 Hs : Hp} {av0 : Addr → Prop} {EE : Ends} (I : Mm → List Sl → Prop) (h : EndsOk X H0 av0 Hs D EE) : EndsOk X H0 av0 Hs { D with nx := I, ct := I, bk := D.nx } { EE with nx := Lp X H0 av0 Hs I, ct := Lp X H0 av0 Hs I, bk := EE.nx } :=
  ⟨fun m ρ σ H q en z => ⟨m, ρ, q, en, z⟩, h.nx, fun m ρ σ H q en z => ⟨m, ρ, q, en, z⟩, h.rt, h.ex⟩
theorem flat_kt {K : PySem.W.Frag} {av av' : Addr → Prop} {H H' : Hp} {n : Nat} {d : PD} {v : V} (h : flatD n d) (k : Kt K H H') (r : Rp K av H v d) : Rp K av' H' v d :=
  Rp.mono (av := fun _ => True) k (fun _ _ _ z => absurd trivial z) d v (flat_any n d v h r)
theorem EndsOk.from' {H0 Hs H1 : Hp} {av0 : Addr → Prop} {EE : Ends} {D : Nd} (h : EndsOk X H0 av0 Hs D EE) (k : Kt X.K Hs H1) : EndsOk X H0 av0 H1 D EE := h.from k
/-- for NAME in a tuple -/
theorem s_forT (j : Nat) {x : Str} {iter : Expr} {ds : List PD} {n : Nat} (I : Nat → Mm → List Sl → Prop) (hc : X.calm = true) (hN : X.N.Nodup) (hp : PassesOwn (model X.prog X.w) X.A X.env X.xe) (hi : E X m iter ρ (· = .tuple ds)) (hfl : ∀ d ∈ ds, flatD n d) (h0 : I 0 m ρ)
    (hs : ∀ i d m' ρ', ds[i]? = some d → I i m' ρ' → SS X body m' (ρ'.set j (.im d)) { D with nx := I (i + 1), ct := I (i + 1), bk := D.nx }) (hd : ∀ m' ρ', I ds.length m' ρ' → D.nx m' ρ')
    (hj : X.N[j]? = some x := by rfl) (hx : Loc X.env.scope x := by first | exact Or.inl rfl | exact Or.inr rfl) (hf : X.fn x = true ∨ X.env.scope.names.lookup x = some .local := by first | exact .inl rfl | exact .inr rfl) (hfo : ∀ x, foldedSetIterable iter X.env x = pure x := by intro _; rfl) : S X (.For (.Name x p2) iter body [] pos) m ρ D := fun H0 av0 σ H en EE k =>
  ws_of (ps_for hp hc (pi_tup pe_we) (pg_name hN hj hx hf) pss_ws hfo) (hi H0 av0 σ H en _ fun v d H1 k1 o1 r1 p1 => by
    subst p1
    cases r1 with
    | tup h1 h2 =>
      rename_i at_ xs
      refine ⟨_, rfl, ⟨_, h1⟩, for_tup (K := X.K) (xs := xs) (fun i σ' H' => Lp X H0 av0 H1 (I i) σ' H') ⟨m, ρ, h0, en.step k1 o1, Kt.refl _ _⟩ (fun i σ' H' _ z => ?_) (fun i y σ' H' hy z => ?_) (fun σ' H' z => ?_)⟩
      · obtain ⟨_, _, _, _, q⟩ := z
        exact q.1 _ _ h1
      · obtain ⟨m', ρ', q1, en', kt⟩ := z
        obtain ⟨d, hd', rd⟩ := h2.get hy
        have rd' := flat_kt (av' := m'.av) (hfl d (List.mem_of_getElem? hd')) kt rd
        exact hs i d m' ρ' hd' q1 H0 av0 _ H' (en'.set rd') _ (((k.from k1.kt).loop (I (i + 1))).from' kt)
      · obtain ⟨m', ρ', q1, en', kt⟩ := z
        rw [h2.length] at q1
        exact k.nx m' ρ' σ' H' (hd m' ρ' q1) en' (k1.kt.trans kt))
/-- while -/
theorem s_while (I : Nat → Mm → List Sl → Prop) (n0 : Nat) (hp : PassesOwn (model X.prog X.w) X.A X.env X.xe) (h0 : I n0 m ρ)
    (hs : ∀ n m' ρ', I n m' ρ' → ∃ c, T X m' e ρ' c ∧ (c = true → SS X body m' ρ' { D with nx := fun m2 ρ2 => ∃ n', n' < n ∧ I n' m2 ρ2, ct := fun m2 ρ2 => ∃ n', n' < n ∧ I n' m2 ρ2, bk := D.nx }) ∧ (c = false → D.nx m' ρ')) : S X (.While e body [] pos) m ρ D := fun H0 av0 σ H en EE k =>
  ws_of (ps_while hp pt_wt pss_ws) ⟨fun n σ' H' => Lp X H0 av0 H (I n) σ' H', ⟨n0, m, ρ, h0, en, Kt.refl _ _⟩, fun n σ' H' ⟨m', ρ', q, en', kt⟩ => by
    obtain ⟨c, hc, h1, h2⟩ := hs n m' ρ' q
    refine hc H0 av0 σ' H' en' _ fun H2 k2 o2 => ?_
    cases c with
    | true =>
      refine iteT ⟨Lp X H0 av0 H (fun m2 ρ2 => ∃ n', n' < n ∧ I n' m2 ρ2), fun σ3 H3 ⟨m3, ρ3, ⟨n', hn, q3⟩, en3, kt3⟩ => ⟨n', hn, m3, ρ3, q3, en3, kt3⟩, ?_⟩
      exact h1 rfl H0 av0 σ' H2 (en'.step k2 o2) _ ((k.loop (fun m2 ρ2 => ∃ n', n' < n ∧ I n' m2 ρ2)).from' (kt.trans k2.kt))
    | false => exact iteF (k.nx m' ρ' σ' H2 (h2 rfl) (en'.step k2 o2) (kt.trans k2.kt))⟩
end
end Tk
end
section
namespace Tk
open PySem PySem.Spec PyProof.Rows L2
def startP (N : List Str) (ds : List PD) : List Sl := ds.map Sl.im ++ List.replicate (N.length - ds.length) Sl.no
theorem start_env {K : PySem.W.Frag} {H : Hp} {av : Addr → Prop} {N : List Str} {vs : List V} {ds : List PD} (hd : ∀ a, av a → H a ≠ none) (r : RpA K av H vs ds) : Env' K H av ⟨av, .no⟩ (L2.start N vs) H (startP N ds) := by
  refine ⟨Kp.refl _ _, fun _ z => z, hd, ⟨hd, trivial⟩, by unfold L2.start startP; rw [List.length_append, List.length_append, List.length_map, List.length_map, List.length_replicate, List.length_replicate, r.length], fun i s q => ?_⟩
  unfold startP at q
  unfold L2.start
  by_cases hi : i < ds.length
  · rw [List.getElem?_append_left (by rw [List.length_map]; exact hi), List.getElem?_map] at q
    cases e : ds[i]? with
    | none => rw [e] at q; cases q
    | some d =>
      rw [e] at q
      cases q
      obtain ⟨v, e2, rv⟩ := r.get' e
      exact ⟨some v, by rw [List.getElem?_append_left (by rw [List.length_map, r.length]; exact hi), List.getElem?_map, e2]; rfl, v, rfl, rv⟩
  · rw [List.getElem?_append_right (by rw [List.length_map]; omega), List.length_map] at q
    obtain ⟨h1, h2⟩ := List.getElem?_eq_some_iff.mp q
    rw [List.getElem_replicate] at h2
    subst h2
    rw [List.length_replicate] at h1
    refine ⟨none, ?_, trivial⟩
    rw [List.getElem?_append_right (by rw [List.length_map, r.length]; omega), List.length_map, r.length]
    exact List.getElem?_replicate_of_lt h1
section
variable {P : Program} {w : World} {K : PySem.W.Frag} {mg : Str → Option Value} {base : Heap}
/-- what a def of data hands back: d -/
def retD (d : PD) : Nd := { nx := fun m _ => m.dk = none ∧ d = .none, rt := fun m d' => m.dk = none ∧ d' = d }
theorem fn_okD {x qual : Str} {params : Arguments} {body : List Stmt} {scope : Scope} {dvs : List V} {kws : List (Str × V)} {f : Addr} {fd : FuncData} {N ps : List Str} {k : Nat} {G : List PD → PD → Prop} (F : FunD K x qual params body scope dvs kws f fd) (S : FnScope N ps scope)
    (hl : ∀ ds d, G ds d → ds.length = ps.length)
    (h : ∀ (cdv : Value) (A : Around) (outer : List Env) (s : Shared) (H : Hp) (E : XK) (av : Addr → Prop) (ds : List PD) (d : PD), Room k (A.deeper (envOfC qual scope s.heap.objs.size f cdv)) → G ds d → SS (cxOf CX0 P w K mg base N qual scope f cdv A outer s H E).nox body ⟨av, .no⟩ (startP N ds) (retD d)) :
    FnOk P w K mg base CX0 (k + 1) f fd ps (spD K G) := by
  refine F.ok S (fun vs H Q E hs => ?_) (fun cdv A outer s H vs Q E hr hs => ?_)
  · obtain ⟨av, ds, d, _, r, hG, _⟩ := hs
    rw [r.length]
    exact hl ds d hG
  · obtain ⟨av, ds, d, hd, r, hG, hQ⟩ := hs
    refine ⟨WSs (cxOf CX0 P w K mg base N qual scope f cdv A outer s H E).nox body, PSs.nox pss_ws, ?_⟩
    refine h cdv A outer s H E av ds d hr hG H av _ H (start_env hd r) _ ⟨fun m ρ σ H' e en _ => ?_, fun _ _ _ _ z => z.elim, fun _ _ _ _ z => z.elim, fun m v d' H' e k1 o1 sub r1 => ?_, fun _ z => z.elim⟩
    · obtain ⟨ek, e'⟩ : m.dk = none ∧ d = .none := e
      subst e'
      have fr := en.fr
      rw [ek] at fr
      exact hQ .non H' fr.toSame .non
    · obtain ⟨ek, e'⟩ : m.dk = none ∧ d' = d := e
      subst e'
      rw [ek] at k1
      exact hQ v H' k1.toSame (r1.anti fun a z _ => sub a z)
/-- a def that is called: where it stands, its promise -/
structure CalD (P : Program) (w : World) (K : PySem.W.Frag) (mg : Str → Option Value) (base : Heap) (CX : CXT) (k : Nat) (x : Str) (ps : List Str) (dvs : List V) (sp : Sp) : Prop where
  ex : ∃ f fd us, FnOk P w K mg base CX k f fd ps sp ∧ mg x = some (.ref f) ∧ PySem.W.keepIn K (.ref f) = true ∧ Binds K fd ps us ∧ Vals dvs us
structure Bt (mg : Str → Option Value) : Prop where
  len : mg "len" = none
  tuple : mg "tuple" = none
  all : mg "all" = none
  isi : mg "isinstance" = none
  str : mg "str" = none
  int : mg "int" = none
  bool : mg "bool" = none
  range : mg "range" = none
  max : mg "max" = none
  sum : mg "sum" = none
  list : mg "list" = none
  enum : mg "enumerate" = none
end
section
variable {X : Cx} {m : Mm} {e a b : Expr} {es : List Expr} {ρ : List Sl} {P : PD → Prop} {pos p p2 : Pos} {k : Nat}
theorem c_call {CX : CXT} {n j : Nat} {ps : List Str} {G : List PD → PD → Prop} {x : Str} {ds : List PD} {d : PD} (xe : XK) (C : CalD X.prog X.w X.K X.mg X.base CX n x ps [] (spD X.K G)) (hr : Room j X.A) (hnj : n ≤ j) (hx : Passes CX X xe)
    (ha : EA X m (e :: es) ρ (· = ds)) (hG : G ds d) (hg : Gl X x := by rfl) (hdb : (x == ("__debug__" : Str)) = false := by decide) (he : starEach (e :: es) X.env = (false, eval e X.env) :: starEach es X.env := by rfl) (hpl : (backTo pos (starEach es X.env)).any (·.1) = false := by rfl) :
    E X m (.Call (.Name x p) (e :: es) [] pos) ρ (· = d) := by
  obtain ⟨f, fd, us, F, hm, hk, hb, hu⟩ := C.ex
  cases hu
  exact e_call (xe := xe) F (hr.mono hnj) hm hk hb hx ha hG hg hdb he hpl
theorem c_callN {CX : CXT} {n j : Nat} {ps : List Str} {G : List PD → PD → Prop} {x : Str} {ds : List PD} {d : PD} (xe : XK) (C : CalD X.prog X.w X.K X.mg X.base CX n x ps [.non] (spD X.K G)) (hr : Room j X.A) (hnj : n ≤ j) (hx : Passes CX X xe)
    (ha : EA X m (e :: es) ρ (· = ds)) (hG : G (ds ++ [.none]) d) (hg : Gl X x := by rfl) (hdb : (x == ("__debug__" : Str)) = false := by decide) (he : starEach (e :: es) X.env = (false, eval e X.env) :: starEach es X.env := by rfl) (hpl : (backTo pos (starEach es X.env)).any (·.1) = false := by rfl) :
    E X m (.Call (.Name x p) (e :: es) [] pos) ρ (· = d) := by
  obtain ⟨f, fd, us, F, hm, hk, hb, hu⟩ := C.ex
  exact e_callN (xe := xe) F (hr.mono hnj) hm hk hb hu hx ha hG hg hdb he hpl
theorem FunD.call {K : PySem.W.Frag} {mg : Str → Option Value} {P : Program} {w : World} {base : Heap} {CX : CXT} {k : Nat} {x qual : Str} {params : Arguments} {body : List Stmt} {scope : Scope} {dvs : List V} {kws : List (Str × V)} {f : Addr} {fd : FuncData} {y : Str} {ps : List Str} {sp : Sp}
    (F : FunD K x qual params body scope dvs kws f fd) (hm : mg y = some (.ref f)) (us : List Value) (hb : Binds K fd ps us) (hu : Vals dvs us) (ok : FnOk P w K mg base CX k f fd ps sp) : CalD P w K mg base CX k y ps dvs sp := ⟨⟨f, fd, us, ok, hm, F.kp, hb, hu⟩⟩
end
end Tk
end
section
namespace Tk
open PySem PySem.Spec PyProof.Rows L2
section
variable {X : Cx} {m : Mm} {e a b : Expr} {es : List Expr} {ρ : List Sl} {P : PD → Prop} {pos p p2 : Pos} {k : Nat}
theorem t_cmp {op : CmpOp} {r : R2} {x y : PD} {c : Bool} (ho : OpR X (compareOp op) r) (ha : E X m a ρ (· = x)) (hb : E X m b ρ (· = y)) (hr : R2D X m r x y (· = .bool c)) (hm : behindInMarks op b = false := by first | exact nobehind _ (by decide) (by decide) | rfl) : T X m (.Compare a [op] [b] pos) ρ c := fun H0 av0 σ H en Q k =>
  wt_of (pt_cmpR ho pe_we pe_we hm) (ha H0 av0 σ H en _ fun v d H1 k1 o1 r1 p1 => hb H0 av0 σ H1 (en.step k1 o1) _ fun v2 d2 H2 k2 o2 r2 p2 => by
    subst p1 p2
    exact hr H0 v v2 H2 o2 (r1.kp k2 o1.dkav) r2 _ fun v3 d3 H3 k3 o3 r3 p3 => by
      subst p3
      cases r3
      exact ⟨c, rfl, k H3 ((k1.trans k2).trans k3) o3⟩)
theorem t_lt {i j : Int} (ha : E X m a ρ (· = .int i)) (hb : E X m b ρ (· = .int j)) : T X m (.Compare a [.Lt] [b] pos) ρ (decide (i < j)) := t_cmp op_lt ha hb (r2_I0 fun _ _ => .bl _)
theorem t_le {i j : Int} (ha : E X m a ρ (· = .int i)) (hb : E X m b ρ (· = .int j)) : T X m (.Compare a [.LtE] [b] pos) ρ (decide (i ≤ j)) := t_cmp op_le ha hb (r2_I0 fun _ _ => .bl _)
theorem t_gt {i j : Int} (ha : E X m a ρ (· = .int i)) (hb : E X m b ρ (· = .int j)) : T X m (.Compare a [.Gt] [b] pos) ρ (decide (j < i)) := t_cmp op_gt ha hb (r2_I0 fun _ _ => .bl _)
theorem t_ge {i j : Int} (ha : E X m a ρ (· = .int i)) (hb : E X m b ρ (· = .int j)) : T X m (.Compare a [.GtE] [b] pos) ρ (decide (j ≤ i)) := t_cmp op_ge ha hb (r2_I0 fun _ _ => .bl _)
theorem t_eq {x y : PD} {n n' : Nat} {c : Bool} {j : Nat} (hr : Room j X.A) (ha : E X m a ρ (· = x)) (hb : E X m b ρ (· = y)) (hc : x = y ↔ c = true) (gx : good n x) (gy : good n' y) (hn : n ≤ 64 := by decide) (hn' : n' ≤ 64 := by decide) : T X m (.Compare a [.Eq] [b] pos) ρ c :=
  t_cmp (op_eqD hr.units) ha hb (r2_eqD gx gy hn hn' hc)
theorem t_ne {x y : PD} {n n' : Nat} {c : Bool} {j : Nat} (hr : Room j X.A) (ha : E X m a ρ (· = x)) (hb : E X m b ρ (· = y)) (hc : x = y ↔ c = true) (gx : good n x) (gy : good n' y) (hn : n ≤ 64 := by decide) (hn' : n' ≤ 64 := by decide) : T X m (.Compare a [.NotEq] [b] pos) ρ (!c) :=
  t_cmp (op_neD hr.units) ha hb (r2_neD gx gy hn hn' hc)
theorem t_eqI {i j : Int} (ha : E X m a ρ (· = .int i)) (hb : E X m b ρ (· = .int j)) : T X m (.Compare a [.Eq] [b] pos) ρ (decide (i = j)) := t_cmp op_eq ha hb (r2_val (vz := .bl (decide (i = j))) (fun _ _ => .bl _) fun vx vy H hx hy Q q => by
  obtain ⟨_, hx⟩ := hx
  obtain ⟨_, hy⟩ := hy
  cases hx
  cases hy
  refine ⟨rfl, ?_⟩
  have e1 : decide (V.int i = V.int j) = decide (i = j) := decide_eq_decide.mpr (by rw [V.int.injEq])
  rw [e1]
  exact q)
theorem t_neI {i j : Int} (ha : E X m a ρ (· = .int i)) (hb : E X m b ρ (· = .int j)) : T X m (.Compare a [.NotEq] [b] pos) ρ (!decide (i = j)) := t_cmp op_ne ha hb (r2_val (vz := .bl (!decide (i = j))) (fun _ _ => .bl _) fun vx vy H hx hy Q q => by
  obtain ⟨_, hx⟩ := hx
  obtain ⟨_, hy⟩ := hy
  cases hx
  cases hy
  refine ⟨rfl, ?_⟩
  have e1 : decide (V.int i = V.int j) = decide (i = j) := decide_eq_decide.mpr (by rw [V.int.injEq])
  rw [e1]
  exact q)
theorem t_eqS {i j : Str} (ha : E X m a ρ (· = .str i)) (hb : E X m b ρ (· = .str j)) : T X m (.Compare a [.Eq] [b] pos) ρ (decide (i = j)) := t_cmp op_eq ha hb (r2_val (vz := .bl (decide (i = j))) (fun _ _ => .bl _) fun vx vy H hx hy Q q => by
  obtain ⟨_, hx⟩ := hx
  obtain ⟨_, hy⟩ := hy
  cases hx
  cases hy
  refine ⟨rfl, ?_⟩
  have e1 : decide (V.str i = V.str j) = decide (i = j) := decide_eq_decide.mpr (by rw [V.str.injEq])
  rw [e1]
  exact q)
theorem t_neS {i j : Str} (ha : E X m a ρ (· = .str i)) (hb : E X m b ρ (· = .str j)) : T X m (.Compare a [.NotEq] [b] pos) ρ (!decide (i = j)) := t_cmp op_ne ha hb (r2_val (vz := .bl (!decide (i = j))) (fun _ _ => .bl _) fun vx vy H hx hy Q q => by
  obtain ⟨_, hx⟩ := hx
  obtain ⟨_, hy⟩ := hy
  cases hx
  cases hy
  refine ⟨rfl, ?_⟩
  have e1 : decide (V.str i = V.str j) = decide (i = j) := decide_eq_decide.mpr (by rw [V.str.injEq])
  rw [e1]
  exact q)
theorem t_isN {x : PD} (ha : E X m a ρ (· = x)) (hb : E X m b ρ (· = .none)) : T X m (.Compare a [.Is] [b] pos) ρ (isNone x) := t_cmp op_isN ha hb (r2_val (vz := .bl (isNone x)) (fun _ _ => .bl _) fun vx vy H hx hy Q q => by
  obtain ⟨_, hx⟩ := hx
  obtain ⟨_, hy⟩ := hy
  have e1 := rp_none hx
  cases hy
  refine ⟨rfl, ?_⟩
  rw [e1]
  exact q)
theorem t_notN {x : PD} (ha : E X m a ρ (· = x)) (hb : E X m b ρ (· = .none)) : T X m (.Compare a [.IsNot] [b] pos) ρ (!isNone x) := t_cmp op_notN ha hb (r2_val (vz := .bl (!isNone x)) (fun _ _ => .bl _) fun vx vy H hx hy Q q => by
  obtain ⟨_, hx⟩ := hx
  obtain ⟨_, hy⟩ := hy
  have e1 := rp_none hx
  cases hy
  refine ⟨rfl, ?_⟩
  rw [e1]
  exact q)
theorem t_isB {x y : Bool} (ha : E X m a ρ (· = .bool x)) (hb : E X m b ρ (· = .bool y)) : T X m (.Compare a [.Is] [b] pos) ρ (decide (x = y)) := t_cmp op_isBl ha hb (r2_val (vz := .bl (decide (x = y))) (fun _ _ => .bl _) fun vx vy H hx hy Q q => by
  obtain ⟨_, hx⟩ := hx
  obtain ⟨_, hy⟩ := hy
  cases hx
  cases hy
  exact ⟨x, y, rfl, rfl, q⟩)
theorem t_notB {x y : Bool} (ha : E X m a ρ (· = .bool x)) (hb : E X m b ρ (· = .bool y)) : T X m (.Compare a [.IsNot] [b] pos) ρ (!decide (x = y)) := t_cmp op_notBl ha hb (r2_val (vz := .bl (!decide (x = y))) (fun _ _ => .bl _) fun vx vy H hx hy Q q => by
  obtain ⟨_, hx⟩ := hx
  obtain ⟨_, hy⟩ := hy
  cases hx
  cases hy
  exact ⟨x, y, rfl, rfl, q⟩)
theorem t_notInI {i : Int} {ns : List Int} (ha : E X m a ρ (· = .int i)) (hb : E X m b ρ (· = .tuple (ns.map .int))) (hm : behindInMarks .NotIn b = false := by rfl) : T X m (.Compare a [.NotIn] [b] pos) ρ (!decide (i ∈ ns)) := t_cmp op_notIn_seq ha hb (fun H0 vx vy H o rx ry Q k => by
  cases rx
  cases ry with
  | tup h1 r1 =>
    rw [r1.ints] at h1
    refine ⟨_, _, rfl, .inr h1, rfl, flat_ints ns, ?_⟩
    have := k (.bl (!decide (i ∈ ns))) _ H (Kp.refl _ _) o (.bl _) rfl
    rw [← inV_int] at this
    exact this) hm
theorem t_inSs {i : Str} {ns : List Str} (ha : E X m a ρ (· = .str i)) (hb : E X m b ρ (· = .tuple (ns.map .str))) (hm : behindInMarks .In b = false := by rfl) : T X m (.Compare a [.In] [b] pos) ρ (decide (i ∈ ns)) := t_cmp op_in_seq ha hb (fun H0 vx vy H o rx ry Q k => by
  cases rx
  cases ry with
  | tup h1 r1 =>
    rw [r1.strs] at h1
    refine ⟨_, _, rfl, .inr h1, rfl, flat_strs ns, ?_⟩
    have := k (.bl (decide (i ∈ ns))) _ H (Kp.refl _ _) o (.bl _) rfl
    rw [← inV_str] at this
    exact this) hm
theorem t_notInSs {i : Str} {ns : List Str} (ha : E X m a ρ (· = .str i)) (hb : E X m b ρ (· = .tuple (ns.map .str))) (hm : behindInMarks .NotIn b = false := by rfl) : T X m (.Compare a [.NotIn] [b] pos) ρ (!decide (i ∈ ns)) := t_cmp op_notIn_seq ha hb (fun H0 vx vy H o rx ry Q k => by
  cases rx
  cases ry with
  | tup h1 r1 =>
    rw [r1.strs] at h1
    refine ⟨_, _, rfl, .inr h1, rfl, flat_strs ns, ?_⟩
    have := k (.bl (!decide (i ∈ ns))) _ H (Kp.refl _ _) o (.bl _) rfl
    rw [← inV_str] at this
    exact this) hm
theorem t_inSign {c : Nat} {z : Str} (ha : E X m a ρ (· = .str ⟨#[c]⟩)) (hb : E X m b ρ (· = .str z)) (hm : behindInMarks .In b = false := by rfl) : T X m (.Compare a [.In] [b] pos) ρ (decide (c ∈ z.cps.toList)) := t_cmp op_in_sign ha hb (r2_val (vz := .bl (decide (c ∈ z.cps.toList))) (fun _ _ => .bl _) fun vx vy H hx hy Q q => by
  obtain ⟨_, hx⟩ := hx
  obtain ⟨_, hy⟩ := hy
  cases hx
  cases hy
  exact ⟨c, z, rfl, rfl, q⟩) hm
theorem nf {α : Prop} (z : false = true) : α := Bool.noConfusion z
theorem tf {α : Prop} (z : true = false) : α := Bool.noConfusion z
end
end Tk
end
section
namespace Tk
open PySem PySem.Spec PyProof.Rows L2
def top (i : Nat) : Stmt := PySem.Challenge.pw_takeleave_k84_whole_shuffles_alike_or_pa.main.body.getD i (.Pass ⟨0, 0, 0, 0⟩)
/-- a def of the top by its statement -/
abbrev FnP (K : PySem.W.Frag) (x : Str) (st : Stmt) (dvs : List V) (f : Addr) (fd : FuncData) : Prop := FunD K x x (defArgs st) (defBody st) (defScope st) dvs [] f fd
abbrev sis_shuffle : Stmt := top 9
abbrev Nis_shuffle : List Str := ["thing", "parts", "sign"]
abbrev pis_shuffle : List Str := ["thing"]
theorem cis_shuffle : FnScope Nis_shuffle pis_shuffle (defScope sis_shuffle) := ⟨rfl, rfl, rfl, by decide +kernel, rfl, by decide +kernel, by decide +kernel⟩
abbrev staken_left : Stmt := top 10
abbrev Ntaken_left : List Str := ["shuffle", "taken", "left", "sign"]
abbrev ptaken_left : List Str := ["shuffle"]
theorem ctaken_left : FnScope Ntaken_left ptaken_left (defScope staken_left) := ⟨rfl, rfl, rfl, by decide +kernel, rfl, by decide +kernel, by decide +kernel⟩
abbrev sleast_map : Stmt := top 13
abbrev Nleast_map : List Str := ["n", "picks", "pick"]
abbrev pleast_map : List Str := ["n", "picks"]
theorem cleast_map : FnScope Nleast_map pleast_map (defScope sleast_map) := ⟨rfl, rfl, rfl, by decide +kernel, rfl, by decide +kernel, by decide +kernel⟩
abbrev smap_with : Stmt := top 14
abbrev Nmap_with : List Str := ["n", "picks", "word", "takes", "left", "lacks", "pick", "kept", "k"]
abbrev pmap_with : List Str := ["n", "picks", "word"]
theorem cmap_with : FnScope Nmap_with pmap_with (defScope smap_with) := ⟨rfl, rfl, rfl, by decide +kernel, rfl, by decide +kernel, by decide +kernel⟩
abbrev swhole_map : Stmt := top 15
abbrev Nwhole_map : List Str := ["row", "n", "picks", "word"]
abbrev pwhole_map : List Str := ["row"]
theorem cwhole_map : FnScope Nwhole_map pwhole_map (defScope swhole_map) := ⟨rfl, rfl, rfl, by decide +kernel, rfl, by decide +kernel, by decide +kernel⟩
abbrev smap_of : Stmt := top 16
abbrev Nmap_of : List Str := ["row", "n", "picks"]
abbrev pmap_of : List Str := ["row"]
theorem cmap_of : FnScope Nmap_of pmap_of (defScope smap_of) := ⟨rfl, rfl, rfl, by decide +kernel, rfl, by decide +kernel, by decide +kernel⟩
abbrev sneed_of : Stmt := top 17
abbrev Nneed_of : List Str := ["row"]
abbrev pneed_of : List Str := ["row"]
theorem cneed_of : FnScope Nneed_of pneed_of (defScope sneed_of) := ⟨rfl, rfl, rfl, by decide +kernel, rfl, by decide +kernel, by decide +kernel⟩
abbrev sparting : Stmt := top 18
abbrev Nparting : List Str := ["one", "other", "many", "k"]
abbrev pparting : List Str := ["one", "other"]
theorem cparting : FnScope Nparting pparting (defScope sparting) := ⟨rfl, rfl, rfl, by decide +kernel, rfl, by decide +kernel, by decide +kernel⟩
abbrev sis_name : Stmt := top 26
abbrev Nis_name : List Str := ["thing", "sign"]
abbrev pis_name : List Str := ["thing"]
theorem cis_name : FnScope Nis_name pis_name (defScope sis_name) := ⟨rfl, rfl, rfl, by decide +kernel, rfl, by decide +kernel, by decide +kernel⟩
abbrev sis_word : Stmt := top 28
abbrev Nis_word : List Str := ["thing"]
abbrev pis_word : List Str := ["thing"]
theorem cis_word : FnScope Nis_word pis_word (defScope sis_word) := ⟨rfl, rfl, rfl, by decide +kernel, rfl, by decide +kernel, by decide +kernel⟩
abbrev sis_row : Stmt := top 29
abbrev Nis_row : List Str := ["thing", "word"]
abbrev pis_row : List Str := ["thing"]
theorem cis_row : FnScope Nis_row pis_row (defScope sis_row) := ⟨rfl, rfl, rfl, by decide +kernel, rfl, by decide +kernel, by decide +kernel⟩
abbrev ssaid : Stmt := top 34
abbrev Nsaid : List Str := ["book"]
abbrev psaid : List Str := ["book"]
theorem csaid : FnScope Nsaid psaid (defScope ssaid) := ⟨rfl, rfl, rfl, by decide +kernel, rfl, by decide +kernel, by decide +kernel⟩
abbrev sparted_stack : Stmt := top 45
abbrev Nparted_stack : List Str := ["stack", "many", "at"]
abbrev pparted_stack : List Str := ["stack", "many"]
theorem cparted_stack : FnScope Nparted_stack pparted_stack (defScope sparted_stack) := ⟨rfl, rfl, rfl, by decide +kernel, rfl, by decide +kernel, by decide +kernel⟩
abbrev sstep : Stmt := top 47
abbrev Nstep : List Str := ["state", "book", "stack", "todo", "word", "rest", "many", "picks", "beneath", "things", "k", "left", "ahead"]
abbrev pstep : List Str := ["state", "book"]
theorem cstep : FnScope Nstep pstep (defScope sstep) := ⟨rfl, rfl, rfl, by decide +kernel, rfl, by decide +kernel, by decide +kernel⟩
abbrev sare_shuffles_rules : Stmt := top 54
abbrev Nare_shuffles_rules : List Str := ["row", "word"]
abbrev pare_shuffles_rules : List Str := ["row"]
theorem care_shuffles_rules : FnScope Nare_shuffles_rules pare_shuffles_rules (defScope sare_shuffles_rules) := ⟨rfl, rfl, rfl, by decide +kernel, rfl, by decide +kernel, by decide +kernel⟩
abbrev sis_mapped : Stmt := top 56
abbrev Nis_mapped : List Str := ["old", "new", "book"]
abbrev pis_mapped : List Str := ["old", "new", "book"]
theorem cis_mapped : FnScope Nis_mapped pis_mapped (defScope sis_mapped) := ⟨rfl, rfl, rfl, by decide +kernel, rfl, by decide +kernel, by decide +kernel⟩
abbrev sleads : Stmt := top 65
abbrev Nleads : List Str := ["rule", "old", "new", "book"]
abbrev pleads : List Str := ["rule", "old", "new", "book"]
theorem cleads : FnScope Nleads pleads (defScope sleads) := ⟨rfl, rfl, rfl, by decide +kernel, rfl, by decide +kernel, by decide +kernel⟩
abbrev sturns_to : Stmt := top 66
abbrev Nturns_to : List Str := ["rule", "old", "new", "book", "told"]
abbrev pturns_to : List Str := ["rule", "old", "new", "book"]
theorem cturns_to : FnScope Nturns_to pturns_to (defScope sturns_to) := ⟨rfl, rfl, rfl, by decide +kernel, rfl, by decide +kernel, by decide +kernel⟩
abbrev sis_count : Stmt := top 70
abbrev Nis_count : List Str := ["thing"]
abbrev pis_count : List Str := ["thing"]
theorem cis_count : FnScope Nis_count pis_count (defScope sis_count) := ⟨rfl, rfl, rfl, by decide +kernel, rfl, by decide +kernel, by decide +kernel⟩
abbrev sis_turn : Stmt := top 74
abbrev Nis_turn : List Str := ["thing", "place", "many", "rule", "new", "number"]
abbrev pis_turn : List Str := ["thing"]
theorem cis_turn : FnScope Nis_turn pis_turn (defScope sis_turn) := ⟨rfl, rfl, rfl, by decide +kernel, rfl, by decide +kernel, by decide +kernel⟩
abbrev sentered : Stmt := top 75
abbrev Nentered : List Str := ["row", "place", "number"]
abbrev pentered : List Str := ["row", "place"]
theorem centered : FnScope Nentered pentered (defScope sentered) := ⟨rfl, rfl, rfl, by decide +kernel, rfl, by decide +kernel, by decide +kernel⟩
abbrev sstretch_at : Stmt := top 76
abbrev Nstretch_at : List Str := ["row", "place", "many", "there"]
abbrev pstretch_at : List Str := ["row", "place", "many"]
theorem cstretch_at : FnScope Nstretch_at pstretch_at (defScope sstretch_at) := ⟨rfl, rfl, rfl, by decide +kernel, rfl, by decide +kernel, by decide +kernel⟩
abbrev sput_at : Stmt := top 77
abbrev Nput_at : List Str := ["row", "place", "many", "new", "number", "inner"]
abbrev pput_at : List Str := ["row", "place", "many", "new"]
theorem cput_at : FnScope Nput_at pput_at (defScope sput_at) := ⟨rfl, rfl, rfl, by decide +kernel, rfl, by decide +kernel, by decide +kernel⟩
abbrev sturned : Stmt := top 78
abbrev Nturned : List Str := ["row", "turn", "book", "place", "many", "rule", "new"]
abbrev pturned : List Str := ["row", "turn", "book"]
theorem cturned : FnScope Nturned pturned (defScope sturned) := ⟨rfl, rfl, rfl, by decide +kernel, rfl, by decide +kernel, by decide +kernel⟩
abbrev spaper_holds : Stmt := top 79
abbrev Npaper_holds : List Str := ["one", "other", "paper", "book", "row", "turn"]
abbrev ppaper_holds : List Str := ["one", "other", "paper", "book"]
theorem cpaper_holds : FnScope Npaper_holds ppaper_holds (defScope spaper_holds) := ⟨rfl, rfl, rfl, by decide +kernel, rfl, by decide +kernel, by decide +kernel⟩
abbrev sturned_back : Stmt := top 80
abbrev Nturned_back : List Str := ["row", "paper", "book", "found", "place", "many", "rule", "new"]
abbrev pturned_back : List Str := ["row", "paper", "book"]
theorem cturned_back : FnScope Nturned_back pturned_back (defScope sturned_back) := ⟨rfl, rfl, rfl, by decide +kernel, rfl, by decide +kernel, by decide +kernel⟩
abbrev sare_shuffles_alike : Stmt := top 107
abbrev Nare_shuffles_alike : List Str := ["row", "word"]
abbrev pare_shuffles_alike : List Str := ["row"]
theorem care_shuffles_alike : FnScope Nare_shuffles_alike pare_shuffles_alike (defScope sare_shuffles_alike) := ⟨rfl, rfl, rfl, by decide +kernel, rfl, by decide +kernel, by decide +kernel⟩
abbrev sof_shuffles : Stmt := top 113
abbrev Nof_shuffles : List Str := ["one", "other", "stack"]
abbrev pof_shuffles : List Str := ["one", "other"]
theorem cof_shuffles : FnScope Nof_shuffles pof_shuffles (defScope sof_shuffles) := ⟨rfl, rfl, rfl, by decide +kernel, rfl, by decide +kernel, by decide +kernel⟩
abbrev salike : Stmt := top 114
abbrev Nalike : List Str := ["one", "other", "book", "here", "paper", "there", "back", "stack"]
abbrev palike : List Str := ["one", "other", "book"]
theorem calike : FnScope Nalike palike (defScope salike) := ⟨rfl, rfl, rfl, by decide +kernel, rfl, by decide +kernel, by decide +kernel⟩
abbrev smap_behind : Stmt := top 118
abbrev Nmap_behind : List Str := ["there", "word", "n", "picks"]
abbrev pmap_behind : List Str := ["there", "word"]
theorem cmap_behind : FnScope Nmap_behind pmap_behind (defScope smap_behind) := ⟨rfl, rfl, rfl, by decide +kernel, rfl, by decide +kernel, by decide +kernel⟩
abbrev snext_maps : Stmt := top 119
abbrev Nnext_maps : List Str := ["known", "last", "few", "found", "there", "word", "more"]
abbrev pnext_maps : List Str := ["known", "last", "few"]
theorem cnext_maps : FnScope Nnext_maps pnext_maps (defScope snext_maps) := ⟨rfl, rfl, rfl, by decide +kernel, rfl, by decide +kernel, by decide +kernel⟩
abbrev scheck_many : Stmt := top 120
abbrev Ncheck_many : List Str := ["known"]
abbrev pcheck_many : List Str := ["known"]
theorem ccheck_many : FnScope Ncheck_many pcheck_many (defScope scheck_many) := ⟨rfl, rfl, rfl, by decide +kernel, rfl, by decide +kernel, by decide +kernel⟩
abbrev sas_told : Stmt := top 121
abbrev Nas_told : List Str := ["known", "there"]
abbrev pas_told : List Str := ["known"]
theorem cas_told : FnScope Nas_told pas_told (defScope sas_told) := ⟨rfl, rfl, rfl, by decide +kernel, rfl, by decide +kernel, by decide +kernel⟩
abbrev sleast_row : Stmt := top 123
abbrev Nleast_row : List Str := ["few", "shuffle", "most", "goal", "known", "last", "k"]
abbrev pleast_row : List Str := ["few", "shuffle", "most"]
theorem cleast_row : FnScope Nleast_row pleast_row (defScope sleast_row) := ⟨rfl, rfl, rfl, by decide +kernel, rfl, by decide +kernel, by decide +kernel⟩
abbrev snext_state : Stmt := top 125
abbrev Nnext_state : List Str := ["state", "book", "found"]
abbrev pnext_state : List Str := ["state", "book"]
theorem cnext_state : FnScope Nnext_state pnext_state (defScope snext_state) := ⟨rfl, rfl, rfl, by decide +kernel, rfl, by decide +kernel, by decide +kernel⟩
abbrev srun : Stmt := top 126
abbrev Nrun : List Str := ["row", "stack", "most", "book", "state", "steps", "later"]
abbrev prun : List Str := ["row", "stack", "most", "book"]
theorem crun : FnScope Nrun prun (defScope srun) := ⟨rfl, rfl, rfl, by decide +kernel, rfl, by decide +kernel, by decide +kernel⟩
abbrev sL_mixed : Stmt := top 128
abbrev NL_mixed : List Str := ["_law_cell", "_law_k", "_law_number"]
abbrev pL_mixed : List Str := ["_law_cell", "_law_k"]
theorem cL_mixed : FnScope NL_mixed pL_mixed (defScope sL_mixed) := ⟨rfl, rfl, rfl, by decide +kernel, rfl, by decide +kernel, by decide +kernel⟩
abbrev sL_deck : Stmt := top 129
abbrev NL_deck : List Str := ["_law_script", "_law_cells"]
abbrev pL_deck : List Str := ["_law_script"]
theorem cL_deck : FnScope NL_deck pL_deck (defScope sL_deck) := ⟨rfl, rfl, rfl, by decide +kernel, rfl, by decide +kernel, by decide +kernel⟩
abbrev sL_draw : Stmt := top 130
abbrev NL_draw : List Str := ["_law_deck_here", "_law_most", "_law_cell"]
abbrev pL_draw : List Str := ["_law_deck_here", "_law_most"]
theorem cL_draw : FnScope NL_draw pL_draw (defScope sL_draw) := ⟨rfl, rfl, rfl, by decide +kernel, rfl, by decide +kernel, by decide +kernel⟩
abbrev sL_shuffle : Stmt := top 131
abbrev NL_shuffle : List Str := ["_law_deck_here", "_law_most", "_law_long", "_law_letters", "_law_left_here", "_law_k"]
abbrev pL_shuffle : List Str := ["_law_deck_here", "_law_most", "_law_long"]
theorem cL_shuffle : FnScope NL_shuffle pL_shuffle (defScope sL_shuffle) := ⟨rfl, rfl, rfl, by decide +kernel, rfl, by decide +kernel, by decide +kernel⟩
abbrev sL_word : Stmt := top 132
abbrev NL_word : List Str := ["_law_deck_here", "_law_menu", "_law_way"]
abbrev pL_word : List Str := ["_law_deck_here"]
theorem cL_word : FnScope NL_word pL_word (defScope sL_word) := ⟨rfl, rfl, rfl, by decide +kernel, rfl, by decide +kernel, by decide +kernel⟩
abbrev sL_row : Stmt := top 133
abbrev NL_row : List Str := ["_law_deck_here", "_law_most", "_law_way", "_law_many", "_law_k"]
abbrev pL_row : List Str := ["_law_deck_here", "_law_most"]
theorem cL_row : FnScope NL_row pL_row (defScope sL_row) := ⟨rfl, rfl, rfl, by decide +kernel, rfl, by decide +kernel, by decide +kernel⟩
abbrev sL_read : Stmt := top 134
abbrev NL_read : List Str := ["_law_word_here", "_law_taken", "_law_left_here", "_law_letter"]
abbrev pL_read : List Str := ["_law_word_here"]
theorem cL_read : FnScope NL_read pL_read (defScope sL_read) := ⟨rfl, rfl, rfl, by decide +kernel, rfl, by decide +kernel, by decide +kernel⟩
abbrev sL_whole : Stmt := top 135
abbrev NL_whole : List Str := ["_law_row_here", "_law_stack", "_law_gone", "_law_word_here", "_law_many", "_law_left_here", "_law_top", "_law_k", "_law_thing"]
abbrev pL_whole : List Str := ["_law_row_here"]
theorem cL_whole : FnScope NL_whole pL_whole (defScope sL_whole) := ⟨rfl, rfl, rfl, by decide +kernel, rfl, by decide +kernel, by decide +kernel⟩
abbrev sL_least : Stmt := top 136
abbrev NL_least : List Str := ["_law_n", "_law_picks", "_law_k", "_law_pick"]
abbrev pL_least : List Str := ["_law_n", "_law_picks"]
theorem cL_least : FnScope NL_least pL_least (defScope sL_least) := ⟨rfl, rfl, rfl, by decide +kernel, rfl, by decide +kernel, by decide +kernel⟩
abbrev sL_wider : Stmt := top 137
abbrev NL_wider : List Str := ["_law_word_here", "_law_taken", "_law_left_here", "_law_put", "_law_letter"]
abbrev pL_wider : List Str := ["_law_word_here"]
theorem cL_wider : FnScope NL_wider pL_wider (defScope sL_wider) := ⟨rfl, rfl, rfl, by decide +kernel, rfl, by decide +kernel, by decide +kernel⟩
abbrev sL_together : Stmt := top 138
abbrev NL_together : List Str := ["_law_one", "_law_other_here", "_law_n", "_law_picks", "_law_pick"]
abbrev pL_together : List Str := ["_law_one", "_law_other_here"]
theorem cL_together : FnScope NL_together pL_together (defScope sL_together) := ⟨rfl, rfl, rfl, by decide +kernel, rfl, by decide +kernel, by decide +kernel⟩
abbrev sL_other : Stmt := top 139
abbrev NL_other : List Str := ["_law_deck_here", "_law_row_here", "_law_way", "_law_at", "_law_still"]
abbrev pL_other : List Str := ["_law_deck_here", "_law_row_here"]
theorem cL_other : FnScope NL_other pL_other (defScope sL_other) := ⟨rfl, rfl, rfl, by decide +kernel, rfl, by decide +kernel, by decide +kernel⟩
abbrev sL_map : Stmt := top 140
abbrev NL_map : List Str := ["_law_row_here", "_law_n", "_law_picks"]
abbrev pL_map : List Str := ["_law_row_here"]
theorem cL_map : FnScope NL_map pL_map (defScope sL_map) := ⟨rfl, rfl, rfl, by decide +kernel, rfl, by decide +kernel, by decide +kernel⟩
abbrev sL_shrunk : Stmt := top 141
abbrev NL_shrunk : List Str := ["_law_row_here", "_law_turns", "_law_at", "_law_word_here"]
abbrev pL_shrunk : List Str := ["_law_row_here"]
theorem cL_shrunk : FnScope NL_shrunk pL_shrunk (defScope sL_shrunk) := ⟨rfl, rfl, rfl, by decide +kernel, rfl, by decide +kernel, by decide +kernel⟩
abbrev sL_made : Stmt := top 142
abbrev NL_made : List Str := ["_law_one", "_law_other_here", "_law_here", "_law_paper", "_law_there", "_law_back"]
abbrev pL_made : List Str := ["_law_one", "_law_other_here"]
theorem cL_made : FnScope NL_made pL_made (defScope sL_made) := ⟨rfl, rfl, rfl, by decide +kernel, rfl, by decide +kernel, by decide +kernel⟩
abbrev sL_left : Stmt := top 143
abbrev NL_left : List Str := ["_law_row_here", "_law_stack", "_law_word_here", "_law_many", "_law_left_here", "_law_top", "_law_k"]
abbrev pL_left : List Str := ["_law_row_here", "_law_stack"]
theorem cL_left : FnScope NL_left pL_left (defScope sL_left) := ⟨rfl, rfl, rfl, by decide +kernel, rfl, by decide +kernel, by decide +kernel⟩
abbrev sL_ends : Stmt := top 144
abbrev NL_ends : List Str := ["_law_row_here", "_law_stack"]
abbrev pL_ends : List Str := ["_law_row_here", "_law_stack"]
theorem cL_ends : FnScope NL_ends pL_ends (defScope sL_ends) := ⟨rfl, rfl, rfl, by decide +kernel, rfl, by decide +kernel, by decide +kernel⟩
abbrev sL_right : Stmt := top 145
abbrev NL_right : List Str := ["_law_one", "_law_other_here", "_law_found", "_law_many", "_law_stack", "_law_k"]
abbrev pL_right : List Str := ["_law_one", "_law_other_here"]
theorem cL_right : FnScope NL_right pL_right (defScope sL_right) := ⟨rfl, rfl, rfl, by decide +kernel, rfl, by decide +kernel, by decide +kernel⟩
abbrev slaw : Stmt := top 146
abbrev Nlaw : List Str := ["_law_script", "_law_deck_here", "_law_turn", "_law_long", "_law_one", "_law_k", "_law_other_here", "_law_few", "_law_at", "_law_word_here", "_law_found"]
abbrev plaw : List Str := ["_law_script"]
theorem claw : FnScope Nlaw plaw (defScope slaw) := ⟨rfl, rfl, rfl, by decide +kernel, rfl, by decide +kernel, by decide +kernel⟩
end Tk
end
section
namespace Tk
open PySem PySem.Spec PyProof.Rows L2
def dis_shuffle : He.DefD := ⟨("is_shuffle", none), "is_shuffle", "is_shuffle", defArgs sis_shuffle, defBody sis_shuffle, defScope sis_shuffle, [], []⟩
def dtaken_left : He.DefD := ⟨("taken_left", none), "taken_left", "taken_left", defArgs staken_left, defBody staken_left, defScope staken_left, [], []⟩
def dleast_map : He.DefD := ⟨("least_map", none), "least_map", "least_map", defArgs sleast_map, defBody sleast_map, defScope sleast_map, [], []⟩
def dmap_with : He.DefD := ⟨("map_with", none), "map_with", "map_with", defArgs smap_with, defBody smap_with, defScope smap_with, [], []⟩
def dwhole_map : He.DefD := ⟨("whole_map", none), "whole_map", "whole_map", defArgs swhole_map, defBody swhole_map, defScope swhole_map, [], []⟩
def dmap_of : He.DefD := ⟨("map_of", none), "map_of", "map_of", defArgs smap_of, defBody smap_of, defScope smap_of, [], []⟩
def dneed_of : He.DefD := ⟨("need_of", none), "need_of", "need_of", defArgs sneed_of, defBody sneed_of, defScope sneed_of, [], []⟩
def dparting : He.DefD := ⟨("parting", none), "parting", "parting", defArgs sparting, defBody sparting, defScope sparting, [], []⟩
def dis_name : He.DefD := ⟨("is_name", none), "is_name", "is_name", defArgs sis_name, defBody sis_name, defScope sis_name, [], []⟩
def dis_word : He.DefD := ⟨("is_word", none), "is_word", "is_word", defArgs sis_word, defBody sis_word, defScope sis_word, [], []⟩
def dis_row : He.DefD := ⟨("is_row", none), "is_row", "is_row", defArgs sis_row, defBody sis_row, defScope sis_row, [], []⟩
def dsaid : He.DefD := ⟨("said", none), "said", "said", defArgs ssaid, defBody ssaid, defScope ssaid, [], []⟩
def dparted_stack : He.DefD := ⟨("parted_stack", none), "parted_stack", "parted_stack", defArgs sparted_stack, defBody sparted_stack, defScope sparted_stack, [], []⟩
def dstep : He.DefD := ⟨("step", none), "step", "step", defArgs sstep, defBody sstep, defScope sstep, [.non], []⟩
def dare_shuffles_rules : He.DefD := ⟨("are_shuffles_rules", none), "are_shuffles", "are_shuffles", defArgs sare_shuffles_rules, defBody sare_shuffles_rules, defScope sare_shuffles_rules, [], []⟩
def dis_mapped : He.DefD := ⟨("is_mapped", none), "is_mapped", "is_mapped", defArgs sis_mapped, defBody sis_mapped, defScope sis_mapped, [], []⟩
def dleads : He.DefD := ⟨("leads", none), "leads", "leads", defArgs sleads, defBody sleads, defScope sleads, [], []⟩
def dturns_to : He.DefD := ⟨("turns_to", none), "turns_to", "turns_to", defArgs sturns_to, defBody sturns_to, defScope sturns_to, [.non], []⟩
def dis_count : He.DefD := ⟨("is_count", none), "is_count", "is_count", defArgs sis_count, defBody sis_count, defScope sis_count, [], []⟩
def dis_turn : He.DefD := ⟨("is_turn", none), "is_turn", "is_turn", defArgs sis_turn, defBody sis_turn, defScope sis_turn, [], []⟩
def dentered : He.DefD := ⟨("entered", none), "entered", "entered", defArgs sentered, defBody sentered, defScope sentered, [], []⟩
def dstretch_at : He.DefD := ⟨("stretch_at", none), "stretch_at", "stretch_at", defArgs sstretch_at, defBody sstretch_at, defScope sstretch_at, [], []⟩
def dput_at : He.DefD := ⟨("put_at", none), "put_at", "put_at", defArgs sput_at, defBody sput_at, defScope sput_at, [], []⟩
def dturned : He.DefD := ⟨("turned", none), "turned", "turned", defArgs sturned, defBody sturned, defScope sturned, [.non], []⟩
def dpaper_holds : He.DefD := ⟨("paper_holds", none), "paper_holds", "paper_holds", defArgs spaper_holds, defBody spaper_holds, defScope spaper_holds, [.non], []⟩
def dturned_back : He.DefD := ⟨("turned_back", none), "turned_back", "turned_back", defArgs sturned_back, defBody sturned_back, defScope sturned_back, [.non], []⟩
def dare_shuffles_alike : He.DefD := ⟨("are_shuffles_alike", none), "are_shuffles", "are_shuffles", defArgs sare_shuffles_alike, defBody sare_shuffles_alike, defScope sare_shuffles_alike, [], []⟩
def dof_shuffles : He.DefD := ⟨("of_shuffles", none), "of_shuffles", "of_shuffles", defArgs sof_shuffles, defBody sof_shuffles, defScope sof_shuffles, [], []⟩
def dalike : He.DefD := ⟨("alike", none), "alike", "alike", defArgs salike, defBody salike, defScope salike, [.non], []⟩
def dmap_behind : He.DefD := ⟨("map_behind", none), "map_behind", "map_behind", defArgs smap_behind, defBody smap_behind, defScope smap_behind, [], []⟩
def dnext_maps : He.DefD := ⟨("next_maps", none), "next_maps", "next_maps", defArgs snext_maps, defBody snext_maps, defScope snext_maps, [], []⟩
def dcheck_many : He.DefD := ⟨("check_many", none), "check_many", "check_many", defArgs scheck_many, defBody scheck_many, defScope scheck_many, [], []⟩
def das_told : He.DefD := ⟨("as_told", none), "as_told", "as_told", defArgs sas_told, defBody sas_told, defScope sas_told, [], []⟩
def dleast_row : He.DefD := ⟨("least_row", none), "least_row", "least_row", defArgs sleast_row, defBody sleast_row, defScope sleast_row, [], []⟩
def dnext_state : He.DefD := ⟨("next_state", none), "next_state", "next_state", defArgs snext_state, defBody snext_state, defScope snext_state, [], []⟩
def drun : He.DefD := ⟨("run", none), "run", "run", defArgs srun, defBody srun, defScope srun, [.non], []⟩
def dL_mixed : He.DefD := ⟨("_law_mixed", none), "_law_mixed", "_law_mixed", defArgs sL_mixed, defBody sL_mixed, defScope sL_mixed, [], []⟩
def dL_deck : He.DefD := ⟨("_law_deck", none), "_law_deck", "_law_deck", defArgs sL_deck, defBody sL_deck, defScope sL_deck, [], []⟩
def dL_draw : He.DefD := ⟨("_law_draw", none), "_law_draw", "_law_draw", defArgs sL_draw, defBody sL_draw, defScope sL_draw, [], []⟩
def dL_shuffle : He.DefD := ⟨("_law_shuffle", none), "_law_shuffle", "_law_shuffle", defArgs sL_shuffle, defBody sL_shuffle, defScope sL_shuffle, [], []⟩
def dL_word : He.DefD := ⟨("_law_word", none), "_law_word", "_law_word", defArgs sL_word, defBody sL_word, defScope sL_word, [], []⟩
def dL_row : He.DefD := ⟨("_law_row", none), "_law_row", "_law_row", defArgs sL_row, defBody sL_row, defScope sL_row, [], []⟩
def dL_read : He.DefD := ⟨("_law_read", none), "_law_read", "_law_read", defArgs sL_read, defBody sL_read, defScope sL_read, [], []⟩
def dL_whole : He.DefD := ⟨("_law_whole", none), "_law_whole", "_law_whole", defArgs sL_whole, defBody sL_whole, defScope sL_whole, [], []⟩
def dL_least : He.DefD := ⟨("_law_least", none), "_law_least", "_law_least", defArgs sL_least, defBody sL_least, defScope sL_least, [], []⟩
def dL_wider : He.DefD := ⟨("_law_wider", none), "_law_wider", "_law_wider", defArgs sL_wider, defBody sL_wider, defScope sL_wider, [], []⟩
def dL_together : He.DefD := ⟨("_law_together", none), "_law_together", "_law_together", defArgs sL_together, defBody sL_together, defScope sL_together, [], []⟩
def dL_other : He.DefD := ⟨("_law_other", none), "_law_other", "_law_other", defArgs sL_other, defBody sL_other, defScope sL_other, [], []⟩
def dL_map : He.DefD := ⟨("_law_map", none), "_law_map", "_law_map", defArgs sL_map, defBody sL_map, defScope sL_map, [], []⟩
def dL_shrunk : He.DefD := ⟨("_law_shrunk", none), "_law_shrunk", "_law_shrunk", defArgs sL_shrunk, defBody sL_shrunk, defScope sL_shrunk, [], []⟩
def dL_made : He.DefD := ⟨("_law_made", none), "_law_made", "_law_made", defArgs sL_made, defBody sL_made, defScope sL_made, [], []⟩
def dL_left : He.DefD := ⟨("_law_left", none), "_law_left", "_law_left", defArgs sL_left, defBody sL_left, defScope sL_left, [], []⟩
def dL_ends : He.DefD := ⟨("_law_ends", none), "_law_ends", "_law_ends", defArgs sL_ends, defBody sL_ends, defScope sL_ends, [], []⟩
def dL_right : He.DefD := ⟨("_law_right", none), "_law_right", "_law_right", defArgs sL_right, defBody sL_right, defScope sL_right, [], []⟩
def dlaw : He.DefD := ⟨("law", none), "law", "law", defArgs slaw, defBody slaw, defScope slaw, [], []⟩
def fn : List He.DefD := [dis_shuffle, dtaken_left, dleast_map, dmap_with, dwhole_map, dmap_of, dneed_of, dparting, dis_name, dis_word, dis_row, dsaid, dparted_stack, dstep, dare_shuffles_rules, dis_mapped, dleads, dturns_to, dis_count, dis_turn, dentered, dstretch_at, dput_at, dturned, dpaper_holds, dturned_back, dare_shuffles_alike, dof_shuffles, dalike, dmap_behind, dnext_maps, dcheck_many, das_told, dleast_row, dnext_state, drun, dL_mixed, dL_deck, dL_draw, dL_shuffle, dL_word, dL_row, dL_read, dL_whole, dL_least, dL_wider, dL_together, dL_other, dL_map, dL_shrunk, dL_made, dL_left, dL_ends, dL_right, dlaw]
def fa0 : List He.Fa := [.glo "is_shuffle", .glo "taken_left", .glo "least_map", .glo "map_with", .glo "whole_map", .glo "map_of", .glo "need_of", .glo "parting", .glo "is_name", .glo "is_word", .glo "is_row", .glo "said", .glo "parted_stack", .glo "step", .glo "are_shuffles_rules", .glo "is_mapped", .glo "leads", .glo "turns_to", .glo "is_count", .glo "is_turn", .glo "entered", .glo "stretch_at", .glo "put_at", .glo "turned", .glo "paper_holds", .glo "turned_back", .glo "are_shuffles_alike", .glo "of_shuffles", .glo "alike", .glo "map_behind", .glo "next_maps", .glo "check_many", .glo "as_told", .glo "least_row", .glo "next_state", .glo "run"]
def fa1 : List He.Fa := [.glo "_law_mixed", .glo "_law_deck", .glo "_law_draw", .glo "_law_shuffle", .glo "_law_word", .glo "_law_row", .glo "_law_read", .glo "_law_whole", .glo "_law_least", .glo "_law_wider", .glo "_law_together", .glo "_law_other", .glo "_law_map", .glo "_law_shrunk", .glo "_law_made", .glo "_law_left", .glo "_law_ends", .glo "_law_right", .glo "law", .glo "BASICS", .glo "NOTHING", .glo "NoTurn", .glo "NoStep", .exc "NoTurn", .free "len", .free "tuple", .free "all", .free "isinstance", .free "str", .free "int", .free "bool", .free "range", .free "max", .free "sum", .free "list", .free "enumerate"]
def fa2 : List He.Fa := [.str "LETTERS" "abcdefgh", .str "SMALL" "abcdefghijklmnopqrstuvwxyz", .int "MOST_LEFT_shuffles" 12, .int "MOST_SIGNS" 8, .int "MOST_MAPS" 1200]
def fa : List He.Fa := fa0 ++ (fa1 ++ (fa2))
def loose0 : List PySem.Str := (["TakeError", "NoStep", "NoTurn", "NoShuffle", "TooMany", "LETTERS", "MOST_LEFT_shuffles", "is_shuffle", "taken_left", "shuffle_of", "least_map", "map_with", "whole_map", "map_of", "need_of", "parting", "BASICS", "SMALL", "MOST_SIGNS", "NUMBERS", "MOST_DEEP", "is_number", "is_name", "is_thing", "is_word", "is_row", "is_stack", "words_within", "words_in", "passes", "said", "WHOLE", "TAKES", "takes_of", "inside", "push"] : List String).map PySem.Str.ofString
def loose1 : List PySem.Str := (["reckoned", "done_rows", "done_things", "done", "parted_stack", "told_row", "step", "EXCHANGE", "EITHER_WAY", "row_in", "push_of", "pushes_of", "are_shuffles", "are_shuffles_rules", "is_mapped", "is_stepped", "is_turned", "rows_dipped", "is_dips", "one_dipped", "is_beneath", "is_slid", "is_emptied", "leads", "turns_to", "DONE_BY", "CHOSEN_BY", "is_count", "is_pushed", "is_at", "may_enter", "is_turn", "entered", "stretch_at", "put_at", "turned"] : List String).map PySem.Str.ofString
def loose2 : List PySem.Str := (["paper_holds", "turned_back", "SAME_TURNED", "is_pushed_row", "shuffle_or_none", "is_told", "pushed_at", "by_step", "by_joining", "by_nothing", "by_turning", "is_dip_at", "by_dips", "by_beneath", "by_sliding", "by_emptying", "RULES", "turn_at", "first_turn", "shorter", "MOST_STEPS", "MOST_WORDS", "MOST_TODO", "MOST_LEFT_alike", "MOST_TRIED", "DEEP", "are_shuffles_alike", "tried_stacks", "is_wide", "end_of", "parted_on", "of_shuffles", "alike", "MOST_MAPS", "NOTHING", "map_behind"] : List String).map PySem.Str.ofString
def loose3 : List PySem.Str := (["next_maps", "check_many", "as_told", "least_row", "next_state", "run", "_law_mixed", "_law_deck", "_law_draw", "_law_shuffle", "_law_word", "_law_row", "_law_read", "_law_whole", "_law_least", "_law_wider", "_law_together", "_law_other", "_law_map", "_law_shrunk", "_law_made", "_law_left", "_law_ends", "_law_right"] : List String).map PySem.Str.ofString
def loose : List PySem.Str := loose0 ++ (loose1 ++ (loose2 ++ (loose3)))
def basicsV : List He.Dv := [.str "plus", .str "minus", .str "times", .str "less", .str "same", .str "do", .str "dip", .str "if", .str "while", .str "repeat", .str "join", .str "wrap", .str "put", .str "part", .str "each"]
def nthAt (K : PySem.W.Frag) : Addr := match K.lookup (He.ga K "NOTHING") with
  | some ⟨_, _, .seq its _, _⟩ => (match its.toList[1]? with
    | some (Value.ref a) => a
    | _ => 0)
  | _ => 0
def emptyT (K : PySem.W.Frag) (a : Addr) : Bool := match K.lookup a with
  | some ⟨.type c, _, .seq its _, _⟩ => decide (c = "tuple") && its.isEmpty
  | _ => false
def exq (K : PySem.W.Frag) : Bool := He.tupB K "BASICS" basicsV && (He.tupB K "NOTHING" [.int 0, .adr nthAt] && (emptyT K (nthAt K) && decide (PySem.W.exmOne K (.ref (He.ga K "NoTurn")) (.ref (He.ga K "NoTurn")) = some true)))
abbrev R : PySem.W.OpenRow := PySem.W.OpenLaw.row PySem.Challenge.rw_takeleave_k84_whole_shuffles_alike_or_pa
abbrev qv : Program := PySem.W.view R.prog [146]
abbrev hk : PySem.W.Hook := He.hookX 2 fa fn [] [] exq
def ob (s : PySem.W.SharedT) : He.AlX := He.obsX 2 fa fn [] [] exq (HandSHeadRun.getT s)
theorem ob_eq (s : PySem.W.SharedT) : ob s = hk.obs s.abs := He.obsX_eq (HandSHeadRun.getT_eq s)
theorem runF (w : World) : HandSHeadRun.RunEq R qv hk ob 20000 loose (w.withFollow "special-get-raises" false) := by
  intro os
  kernel_rfl
theorem runT (w : World) : HandSHeadRun.RunEq R qv hk ob 20000 loose (w.withFollow "special-get-raises" true) := by
  intro os
  kernel_rfl
theorem run (w : World) : HandSHeadRun.RunEq R qv hk ob 20000 loose w := PySem.W.byRow2 (P := fun w => HandSHeadRun.RunEq R qv hk ob 20000 loose w) "special-get-raises" runF runT w
end Tk
end
section
/-! rows of shuffles as maps: plain Lean -/
namespace Tk
/-- a shuffle: it takes n things, leaves those -/
structure Wd where
  n : Nat
  l : List Nat
  deriving DecidableEq
def Wd.ok (w : Wd) : Prop := w.n ≤ 8 ∧ w.l.length ≤ 12 ∧ ∀ k ∈ w.l, k < w.n
abbrev Mp := Nat × List Nat
/-- a map, and a shuffle behind it -/
def mw (s : Mp) (w : Wd) : Mp :=
  (s.1 + (w.n - s.2.length), ((List.range (w.n - s.2.length) ++ s.2.map (· + (w.n - s.2.length))).take ((w.n - s.2.length) + s.2.length - w.n)) ++
    w.l.map fun k => (List.range (w.n - s.2.length) ++ s.2.map (· + (w.n - s.2.length))).getD ((w.n - s.2.length) + s.2.length - w.n + k) 0)
def whole (r : List Wd) : Mp := r.foldl mw (0, [])
def leastM : Nat → List Nat → Mp
  | 0, ps => (0, ps)
  | n + 1, [] => (n + 1, [])
  | n + 1, p :: ps => if p = 0 ∧ 0 ∉ ps then leastM n (ps.map (· - 1)) else (n + 1, p :: ps)
def mapOf (r : List Wd) : Mp := leastM (whole r).1 (whole r).2
/-- a good pair -/
def Good (s : Mp) : Prop := ∀ k ∈ s.2, k < s.1
/-- what a map does to a stack without end, numbered from the top -/
def act (s : Mp) (S : Nat → Nat) (i : Nat) : Nat := if i < s.2.length then S (s.1 - 1 - s.2.getD (s.2.length - 1 - i) 0) else S (i - s.2.length + s.1)
theorem mw_good {s : Mp} {w : Wd} (h : Good s) (hw : w.ok) : Good (mw s w) := by
  obtain ⟨n, p⟩ := s
  obtain ⟨h1, h2, h3⟩ := hw
  intro k hk
  have hP : ∀ k ∈ (List.range (w.n - p.length) ++ p.map (· + (w.n - p.length))), k < n + (w.n - p.length) := by
    intro k hk
    rcases List.mem_append.mp hk with hk | hk
    · have := List.mem_range.mp hk
      omega
    · obtain ⟨j, hj, rfl⟩ := List.mem_map.mp hk
      have : j < n := h j hj
      show j + (w.n - p.length) < _
      omega
  have hl : (List.range (w.n - p.length) ++ p.map (· + (w.n - p.length))).length = (w.n - p.length) + p.length := by
    rw [List.length_append, List.length_range, List.length_map]
  rcases List.mem_append.mp hk with hk | hk
  · exact hP k (List.mem_of_mem_take hk)
  · obtain ⟨j, hj, rfl⟩ := List.mem_map.mp hk
    have hj' := h3 j hj
    have hlt : (w.n - p.length) + p.length - w.n + j < (List.range (w.n - p.length) ++ p.map (· + (w.n - p.length))).length := by rw [hl]; omega
    show (List.range (w.n - p.length) ++ p.map (· + (w.n - p.length))).getD _ 0 < _
    rw [List.getD_eq_getElem?_getD, List.getElem?_eq_getElem hlt]
    exact hP _ (List.getElem_mem hlt)
/-- the map behind a word does what the word does, behind what the map did -/
theorem act_mw {s : Mp} {w : Wd} (hw : w.ok) (S : Nat → Nat) (hs : Good s) : act (mw s w) S = act (w.n, w.l) (act s S) := by
  obtain ⟨n, p⟩ := s
  obtain ⟨h1, h2, h3⟩ := hw
  funext i
  generalize hlk : w.n - p.length = lk
  have hPl : (List.range lk ++ p.map (· + lk)).length = lk + p.length := by rw [List.length_append, List.length_range, List.length_map]
  have hget : ∀ j, j < lk + p.length → (List.range lk ++ p.map (· + lk)).getD j 0 = if j < lk then j else p.getD (j - lk) 0 + lk := by
    intro j hj
    rw [List.getD_eq_getElem?_getD]
    by_cases hjl : j < lk
    · rw [if_pos hjl, List.getElem?_append_left (by rw [List.length_range]; exact hjl), List.getElem?_range hjl]
      rfl
    · rw [if_neg hjl, List.getElem?_append_right (by rw [List.length_range]; omega), List.length_range, List.getElem?_map]
      have : p[j - lk]? = some (p[j - lk]'(by omega)) := List.getElem?_eq_getElem (by omega)
      rw [this, List.getD_eq_getElem?_getD, this]
      rfl
  -- what the extended list gives, from its top
  have hval : ∀ j, j < lk + p.length → S (n + lk - 1 - (List.range lk ++ p.map (· + lk)).getD j 0) = act (n, p) S (lk + p.length - 1 - j) := by
    intro j hj
    rw [hget j hj]
    unfold act
    dsimp only
    by_cases hjl : j < lk
    · rw [if_pos hjl, if_neg (by omega)]
      congr 1
      omega
    · rw [if_neg hjl, if_pos (by omega)]
      congr 1
      have : p.length - 1 - (lk + p.length - 1 - j) = j - lk := by omega
      rw [this]
      omega
  have hmw : mw (n, p) w = (n + lk, (List.range lk ++ p.map (· + lk)).take (lk + p.length - w.n) ++ w.l.map fun k => (List.range lk ++ p.map (· + lk)).getD (lk + p.length - w.n + k) 0) := by
    unfold mw
    dsimp only
    rw [hlk]
  have hkl : ((List.range lk ++ p.map (· + lk)).take (lk + p.length - w.n) ++ w.l.map fun k => (List.range lk ++ p.map (· + lk)).getD (lk + p.length - w.n + k) 0).length = (lk + p.length - w.n) + w.l.length := by
    rw [List.length_append, List.length_take, hPl, List.length_map]
    omega
  rw [hmw]
  rw [show act (n + lk, (List.range lk ++ p.map (· + lk)).take (lk + p.length - w.n) ++ w.l.map fun k => (List.range lk ++ p.map (· + lk)).getD (lk + p.length - w.n + k) 0) S i =
    if i < (lk + p.length - w.n) + w.l.length then S (n + lk - 1 - ((List.range lk ++ p.map (· + lk)).take (lk + p.length - w.n) ++ w.l.map fun k => (List.range lk ++ p.map (· + lk)).getD (lk + p.length - w.n + k) 0).getD ((lk + p.length - w.n) + w.l.length - 1 - i) 0) else S (i - ((lk + p.length - w.n) + w.l.length) + (n + lk)) from by unfold act; dsimp only; rw [hkl]]
  by_cases hi : i < w.l.length
  · -- within the word's own
    rw [if_pos (by omega)]
    rw [show act (w.n, w.l) (act (n, p) S) i = act (n, p) S (w.n - 1 - w.l.getD (w.l.length - 1 - i) 0) from by
      show (if i < w.l.length then _ else _) = _
      rw [if_pos hi]]
    have hj : (w.l.length - 1 - i) < w.l.length := by omega
    have hk : w.l[w.l.length - 1 - i]? = some (w.l[w.l.length - 1 - i]'hj) := List.getElem?_eq_getElem hj
    have hkn : w.l[w.l.length - 1 - i]'hj < w.n := h3 _ (List.getElem_mem hj)
    have e1 : ((List.range lk ++ p.map (· + lk)).take (lk + p.length - w.n) ++ w.l.map fun k => (List.range lk ++ p.map (· + lk)).getD (lk + p.length - w.n + k) 0).getD ((lk + p.length - w.n) + w.l.length - 1 - i) 0 =
        (List.range lk ++ p.map (· + lk)).getD (lk + p.length - w.n + w.l[w.l.length - 1 - i]'hj) 0 := by
      rw [List.getD_eq_getElem?_getD, List.getElem?_append_right (by rw [List.length_take, hPl]; omega), List.length_take, hPl, List.getElem?_map]
      rw [show (lk + p.length - w.n) + w.l.length - 1 - i - min (lk + p.length - w.n) (lk + p.length) = w.l.length - 1 - i by omega, hk]
      rfl
    rw [e1, hval _ (by omega), List.getD_eq_getElem?_getD, hk]
    show _ = act (n, p) S (w.n - 1 - w.l[w.l.length - 1 - i]'hj)
    congr 1
    omega
  · rw [show act (w.n, w.l) (act (n, p) S) i = act (n, p) S (i - w.l.length + w.n) from by
      show (if i < w.l.length then _ else _) = _
      rw [if_neg hi]]
    by_cases hi2 : i < (lk + p.length - w.n) + w.l.length
    · rw [if_pos hi2]
      have e1 : ((List.range lk ++ p.map (· + lk)).take (lk + p.length - w.n) ++ w.l.map fun k => (List.range lk ++ p.map (· + lk)).getD (lk + p.length - w.n + k) 0).getD ((lk + p.length - w.n) + w.l.length - 1 - i) 0 =
          (List.range lk ++ p.map (· + lk)).getD ((lk + p.length - w.n) + w.l.length - 1 - i) 0 := by
        rw [List.getD_eq_getElem?_getD, List.getElem?_append_left (by rw [List.length_take, hPl]; omega), List.getElem?_take_of_lt (by omega), ← List.getD_eq_getElem?_getD]
      rw [e1, hval _ (by omega)]
      congr 1
      omega
    · rw [if_neg hi2]
      show _ = (if i - w.l.length + w.n < p.length then _ else _)
      rw [if_neg (by omega)]
      congr 1
      dsimp only
      omega
end Tk
end
section
namespace Tk
open PySem PySem.Spec PyProof.Rows L2
section
variable {X : Cx} {m : Mm} {e a b : Expr} {es : List Expr} {ρ : List Sl} {P : PD → Prop} {pos p p2 : Pos} {k : Nat}
section
variable {elt iter : Expr} {scope : Scope} {x : Str} {px : Pos} {α : Type} {xs : List α} {g f : α → PD}
theorem map_get {n : Nat} {es : List PD} (h : es.length = xs.length ∧ ∀ (j : Nat) (d : PD), es[j]? = some d → ∀ y, xs[j]? = some y → d = f y) : es = xs.map f :=
  list_of_map (f := f) ⟨h.1, fun j d e => by
    obtain ⟨hj, _⟩ := List.getElem?_eq_some_iff.mp e
    have e2 : xs[j]? = some (xs[j]'(by omega)) := List.getElem?_eq_getElem (by omega)
    exact ⟨_, e2, h.2 j d e _ e2⟩⟩
/-- [f(x) for x in a tuple] -/
theorem el_mapT (j : Nat) (hN : X.N.Nodup) (hi : E X m iter ρ (· = .tuple (xs.map g))) (hl : xs.length ≤ 1000000) (he : ∀ y ∈ xs, EB X scope m.mu elt (ρ.set j (.im (g y))) (· = f y)) (hg : ∀ (s : Shared) (H : Hp) (C : Addr) (cl : List (Str × Addr)) (fp : List Addr), PG (X.blk s H scope (compEnvC scope cl C X.env) fp) (.Name x px) (gName j) := by exact fun _ _ _ _ _ => pg_name (by assumption) rfl (Or.inl rfl))
    (hc : X.calm = true := by rfl) (ok : blkC X.N X.env.scope scope [(x, j)] = true := by rfl) (hs : ∀ x, foldedSetIterable iter X.env x = pure x := by intro _; rfl) :
    EL X m (.ListComp elt [⟨.Name x px, iter, [], 0⟩] scope pos) ρ (· = xs.map f) := fun H0 av0 σ H en Q k =>
  el_lcT (Pe := fun i d => ∀ y, xs[i]? = some y → d = f y) hc hN ok hg hi (by rw [List.length_map]; exact hl) (fun i d hd => by
    rw [List.getElem?_map] at hd
    cases e : xs[i]? with
    | none => rw [e] at hd; cases hd
    | some y =>
      rw [e] at hd
      cases hd
      exact fun s H C cl fp av => (he y (List.mem_of_getElem? e) s H C cl fp av).mono fun d hd y' hy => by cases hy; exact hd) hs H0 av0 σ H en Q fun p vs ds H' h1 h2 h3 h4 h5 h6 => k p vs ds H' h1 h2 h3 h4 h5 (map_get (n := 0) ⟨by rw [h6.1, List.length_map], h6.2⟩)
theorem el_mapL (j : Nat) (hN : X.N.Nodup) (hi : E X m iter ρ (· = .list (xs.map g))) (hl : xs.length ≤ 1000000) (he : ∀ y ∈ xs, EB X scope m.mu elt (ρ.set j (.im (g y))) (· = f y)) (hg : ∀ (s : Shared) (H : Hp) (C : Addr) (cl : List (Str × Addr)) (fp : List Addr), PG (X.blk s H scope (compEnvC scope cl C X.env) fp) (.Name x px) (gName j) := by exact fun _ _ _ _ _ => pg_name (by assumption) rfl (Or.inl rfl))
    (hc : X.calm = true := by rfl) (ok : blkC X.N X.env.scope scope [(x, j)] = true := by rfl) (hs : ∀ x, foldedSetIterable iter X.env x = pure x := by intro _; rfl) :
    EL X m (.ListComp elt [⟨.Name x px, iter, [], 0⟩] scope pos) ρ (· = xs.map f) := fun H0 av0 σ H en Q k =>
  el_lcL (Pe := fun i d => ∀ y, xs[i]? = some y → d = f y) hc hN ok hg hi (by rw [List.length_map]; exact hl) (fun i d hd => by
    rw [List.getElem?_map] at hd
    cases e : xs[i]? with
    | none => rw [e] at hd; cases hd
    | some y =>
      rw [e] at hd
      cases hd
      exact fun s H C cl fp av => (he y (List.mem_of_getElem? e) s H C cl fp av).mono fun d hd y' hy => by cases hy; exact hd) hs H0 av0 σ H en Q fun p vs ds H' h1 h2 h3 h4 h5 h6 => k p vs ds H' h1 h2 h3 h4 h5 (map_get (n := 0) ⟨by rw [h6.1, List.length_map], h6.2⟩)
/-- over the signs of a text -/
theorem el_mapS (j : Nat) {z : Str} {h : Nat → PD} (hN : X.N.Nodup) (hi : E X m iter ρ (· = .str z)) (hl : z.length ≤ 1000000) (he : ∀ c ∈ z.cps.toList, EB X scope m.mu elt (ρ.set j (.im (.str ⟨#[c]⟩))) (· = h c)) (hg : ∀ (s : Shared) (H : Hp) (C : Addr) (cl : List (Str × Addr)) (fp : List Addr), PG (X.blk s H scope (compEnvC scope cl C X.env) fp) (.Name x px) (gName j) := by exact fun _ _ _ _ _ => pg_name (by assumption) rfl (Or.inl rfl))
    (hc : X.calm = true := by rfl) (ok : blkC X.N X.env.scope scope [(x, j)] = true := by rfl) (hs : ∀ x, foldedSetIterable iter X.env x = pure x := by intro _; rfl) :
    EL X m (.ListComp elt [⟨.Name x px, iter, [], 0⟩] scope pos) ρ (· = z.cps.toList.map h) := fun H0 av0 σ H en Q k =>
  el_lcS (Pe := fun i d => ∀ y, z.cps.toList[i]? = some y → d = h y) hc hN ok hg hi hl (fun i c hd => by
    have hd' : z.cps.toList[i]? = some c := by rw [Array.getElem?_toList]; exact hd
    exact fun s H C cl fp av => (he c (List.mem_of_getElem? hd') s H C cl fp av).mono fun d hd y' hy => by rw [hd'] at hy; cases hy; exact hd) hs H0 av0 σ H en Q fun p vs ds H' h1 h2 h3 h4 h5 h6 => k p vs ds H' h1 h2 h3 h4 h5 (map_get (n := 0) ⟨by rw [h6.1, Array.length_toList], h6.2⟩)
/-- over range(n) -/
theorem el_mapR (j : Nat) {n : Nat} {h : Nat → PD} (hN : X.N.Nodup) (hm : X.mg "range" = none) (hi : E X m a ρ (· = .int n)) (hl : n ≤ 1000000) (he : ∀ i : Nat, EB X scope m.mu elt (ρ.set j (.im (.int i))) (· = h i)) (hg : ∀ (s : Shared) (H : Hp) (C : Addr) (cl : List (Str × Addr)) (fp : List Addr), PG (X.blk s H scope (compEnvC scope cl C X.env) fp) (.Name x px) (gName j) := by exact fun _ _ _ _ _ => pg_name (by assumption) rfl (Or.inl rfl))
    (hc : X.calm = true := by rfl) (ok : blkC X.N X.env.scope scope [(x, j)] = true := by rfl) (hgR : Gl X "range" := by rfl) (hst : starEach [a] X.env = [(false, eval a X.env)] := by rfl) (hs : ∀ x, foldedSetIterable (.Call (.Name "range" p) [a] [] p2) X.env x = pure x := by intro _; rfl) :
    EL X m (.ListComp elt [⟨.Name x px, .Call (.Name "range" p) [a] [] p2, [], 0⟩] scope pos) ρ (· = (List.range n).map h) := fun H0 av0 σ H en Q k =>
  el_lcRP (R := (· = n)) (Pe := fun i d => d = h i) hc hN ok hg hm hi (fun d hd => ⟨n, hd, hl, rfl⟩) he hgR hst hs H0 av0 σ H en Q fun p vs ds H' h1 h2 h3 h4 h5 h6 => k p vs ds H' h1 h2 h3 h4 h5 (list_of_get h6)
end
/-- a, b = data in a list -/
theorem s_unpL (is : List Nat) {ts : List Expr} {k' : Nat} {ds : List PD} {D : Nd} (hg : PG X (.Tuple ts k' p2) (gUnl X.K is.length (gNames is))) (he : E X m e ρ (· = .list ds)) (hl : is.length = ds.length) (h : D.nx m (setAll is ds ρ))
    (hs : swapsWithSole [.Tuple ts k' p2] e pos.line X.env = pure false := by rfl) (hw : swappedStores [.Tuple ts k' p2] e X.env = pure none := by rfl) (h1 : (assignEach [.Tuple ts k' p2] X.env).map (·.2) = [assign (.Tuple ts k' p2) X.env] := by rfl) : S X (.Assign [.Tuple ts k' p2] e pos) m ρ D := fun H0 av0 σ H en EE k =>
  ws_of (ps_asg pe_we hg hs hw h1) (he H0 av0 σ H en _ fun v d H1 k1 o1 r1 p1 => by
    subst p1
    cases r1 with
    | lst h1 h3 h2 => exact ⟨_, _, rfl, SqL.of h1, by rw [h2.length, hl], gNames_ok is ds _ σ H1 ρ _ hl h2 (en.step k1 o1) fun σ' en' => k.nx m _ σ' H1 h en' k1.kt⟩)
/-! ### cuts at numbers -/
section
variable {α : Type} {xs : List α} {g : α → PD}
theorem cut_from {n : Nat} (h : n ≤ xs.length) : cutP (xs.map g) (some (n : Int)) none = (xs.drop n).map g := by
  unfold cutP
  rw [HT.sIx_nat, HT.sIx_none, List.length_map, Nat.min_eq_left h, List.map_drop, List.take_of_length_le (by rw [List.length_drop, List.length_map]; omega)]
theorem cut_to {n : Nat} (h : n ≤ xs.length) : cutP (xs.map g) none (some (n : Int)) = (xs.take n).map g := by
  unfold cutP
  rw [HT.sIx_nat, HT.sIx_none, List.length_map, Nat.min_eq_left h, List.drop_zero, Nat.sub_zero, List.map_take]
theorem cut_in {n k : Nat} (h : n ≤ xs.length) (hk : k ≤ xs.length) : cutP (xs.map g) (some (n : Int)) (some (k : Int)) = ((xs.drop n).take (k - n)).map g := by
  unfold cutP
  rw [HT.sIx_nat, HT.sIx_nat, List.length_map, Nat.min_eq_left h, Nat.min_eq_left hk, List.map_take, List.map_drop]
end
theorem atI_map {α : Type} {xs : List α} {g : α → PD} {i : Nat} {x : α} (h : xs[i]? = some x) : atI (xs.map g) (i : Int) = some (g x) := atI_nat (by rw [List.getElem?_map, h]; rfl)
end
end Tk
end
section
/-! words as texts -/
namespace Tk
open PySem PySem.Spec PyProof.Rows L2 TL
def lts (n : Nat) : List Nat := (List.range n).map (· + 97)
def tls (l : List Nat) : List Nat := l.map (· + 97)
def ltx (n : Nat) : Str := ⟨(lts n).toArray⟩
def ttx (l : List Nat) : Str := ⟨(tls l).toArray⟩
def wtx (w : Wd) : Str := ⟨(lts w.n ++ 45 :: tls w.l).toArray⟩
theorem no45_lts (n : Nat) : 45 ∉ lts n := fun h => by
  obtain ⟨k, _, e⟩ := List.mem_map.mp h
  omega
theorem no45_tls (n : List Nat) : 45 ∉ tls n := fun h => by
  obtain ⟨k, _, e⟩ := List.mem_map.mp h
  omega
theorem wtx_len (w : Wd) : (wtx w).length = w.n + 1 + w.l.length := by
  show (lts w.n ++ 45 :: tls w.l).toArray.size = _
  rw [List.size_toArray, List.length_append, List.length_cons]
  unfold lts tls
  rw [List.length_map, List.length_map, List.length_range]
  omega
theorem ltx_len (n : Nat) : (ltx n).length = n := by
  show (lts n).toArray.size = _
  rw [List.size_toArray]
  unfold lts
  rw [List.length_map, List.length_range]
theorem ttx_len (l : List Nat) : (ttx l).length = l.length := by
  show (tls l).toArray.size = _
  rw [List.size_toArray]
  unfold tls
  rw [List.length_map]
theorem split_w (w : Wd) : Txt.split (wtx w) "-" = [ltx w.n, ttx w.l] := by
  refine map_tl_inj ?_
  rw [split_spl _ _ (by decide) (kind_ok (by decide +kernel))]
  show spl (45 :: []) 0 [] (lts w.n ++ (45 :: [] ++ tls w.l)) = [lts w.n, tls w.l]
  rw [spl_part1 (no45_lts w.n), spl_last1 (no45_tls w.l), List.nil_append, List.nil_append]
theorem occ_lt : ∀ n, n ≤ 8 → ∀ k, k < n → Builtin.Str.occurrences (ltx n) ⟨#[k + 97]⟩ 0 (ltx n).length 1 = [k] := by
  have h : ∀ n, n < 9 → ∀ k, k < n → Builtin.Str.occurrences (ltx n) ⟨#[k + 97]⟩ 0 (ltx n).length 1 = [k] := by decide +kernel
  exact fun n hn k hk => h n (by omega) k hk
theorem occ_abc : ∀ k, k < 8 → Builtin.Str.occurrences "abcdefgh" ⟨#[k + 97]⟩ 0 ("abcdefgh" : Str).length 1 = [k] := by decide +kernel
theorem in_lts {n k : Nat} (h : k < n) : k + 97 ∈ lts n := List.mem_map.mpr ⟨k, List.mem_range.mpr h, rfl⟩
theorem abc_cut : ∀ n : Nat, n ≤ 8 → cutS "abcdefgh" none (some (n : Int)) = ltx n := by
  have h : ∀ n : Nat, n < 9 → cutS "abcdefgh" none (some ((n : Nat) : Int)) = ltx n := by decide +kernel
  exact fun n hn => h n (by omega)
theorem abc_at : ∀ k, k < 8 → atI ("abcdefgh" : Str).cps.toList ((k : Nat) : Int) = some (k + 97) := by decide +kernel
/-- the word's text is its letters, the mark, what is left -/
theorem wtx_glue (w : Wd) : ltx w.n ++ "-" ++ ttx w.l = wtx w := by
  show (⟨(lts w.n).toArray ++ #[45] ++ (tls w.l).toArray⟩ : Str) = ⟨(lts w.n ++ 45 :: tls w.l).toArray⟩
  congr 1
  simp
theorem join_tx (l : List Nat) : Txt.join "" (l.map fun k => (⟨#[k + 97]⟩ : Str)) = ttx l := by
  rw [join_eq]
  induction l with
  | nil => rfl
  | cons k l ih =>
    cases l with
    | nil => rfl
    | cons k2 l2 =>
      show (⟨#[k + 97]⟩ : Str) ++ "" ++ Str.join "" _ = _
      rw [ih]
      show (⟨#[k + 97] ++ #[] ++ (tls (k2 :: l2)).toArray⟩ : Str) = ⟨(tls (k :: k2 :: l2)).toArray⟩
      congr 1
      simp [tls]
theorem wtx_ok (w : Wd) (h : w.ok) : PyData.strOk (wtx w) = true := by
  show Array.all _ _ = true
  rw [Array.all_eq_true']
  intro x hx
  have hx' : x ∈ lts w.n ++ 45 :: tls w.l := by simpa [wtx] using hx
  obtain ⟨h1, h2, h3⟩ := h
  rcases List.mem_append.mp hx' with q | q
  · obtain ⟨k, hk, rfl⟩ := List.mem_map.mp q
    have := List.mem_range.mp hk
    exact decide_eq_true (by omega)
  · rcases List.mem_cons.mp q with rfl | q
    · rfl
    · obtain ⟨k, hk, rfl⟩ := List.mem_map.mp q
      have := h3 k hk
      exact decide_eq_true (by omega)
theorem toList_inj {a b : Str} (h : a.cps.toList = b.cps.toList) : a = b := by
  obtain ⟨⟨a⟩⟩ := a
  obtain ⟨⟨b⟩⟩ := b
  have : a = b := h
  rw [this]
/-- the text tells the word -/
theorem wtx_inj {v w : Wd} (h : wtx v = wtx w) : v = w := by
  have h1 := split_w v
  rw [h, split_w w] at h1
  have h2 : ltx w.n = ltx v.n := (List.cons.inj h1).1
  have h3 : ttx w.l = ttx v.l := (List.cons.inj (List.cons.inj h1).2).1
  have h4 : w.n = v.n := by rw [← ltx_len w.n, h2, ltx_len]
  have h5 : tls w.l = tls v.l := by
    have := congrArg (fun s : Str => s.cps.toList) h3
    exact this
  have h6 : w.l = v.l := by
    unfold tls at h5
    exact (List.map_inj_right (fun x y e => by omega)).mp h5
  cases v
  cases w
  simp_all
/-- no basic word has the mark; no name -/
def basics : List Str := ["plus", "minus", "times", "less", "same", "do", "dip", "if", "while", "repeat", "join", "wrap", "put", "part", "each"]
theorem basics_no45 : ∀ x ∈ basics, 45 ∉ x.cps.toList := by decide +kernel
theorem has45 (w : Wd) : 45 ∈ (wtx w).cps.toList := by
  show 45 ∈ lts w.n ++ 45 :: tls w.l
  simp
theorem not_basic (w : Wd) : wtx w ∉ basics := fun h => basics_no45 _ h (has45 w)
theorem small_no45 : 45 ∉ ("abcdefghijklmnopqrstuvwxyz" : Str).cps.toList := by decide +kernel
end Tk
end
section
namespace Tk
open PySem PySem.Spec PyProof.Rows L2
theorem whole_snoc (r : List Wd) (w : Wd) : whole (r ++ [w]) = mw (whole r) w := by
  unfold whole
  rw [List.foldl_append]
  rfl
theorem take_snoc {α : Type} {r : List α} {i : Nat} {w : α} (h : r[i]? = some w) : r.take (i + 1) = r.take i ++ [w] := by
  rw [List.take_add_one, h]
  rfl
theorem whole_take {r : List Wd} {i : Nat} {w : Wd} (h : r[i]? = some w) : whole (r.take (i + 1)) = mw (whole (r.take i)) w := by
  rw [take_snoc h, whole_snoc]
theorem mw_len (s : Mp) (w : Wd) : (mw s w).2.length ≤ s.2.length + w.l.length := by
  show (List.take _ _ ++ List.map _ _).length ≤ _
  rw [List.length_append, List.length_map, List.length_take, List.length_append, List.length_range, List.length_map]
  omega
theorem mw_n (s : Mp) (w : Wd) : (mw s w).1 ≤ s.1 + w.n := by
  show s.1 + (w.n - s.2.length) ≤ _
  omega
def okR (r : List Wd) : Prop := ∀ w ∈ r, w.ok
theorem fold_len : ∀ (r : List Wd) (s : Mp), okR r → (r.foldl mw s).2.length ≤ s.2.length + 12 * r.length ∧ (r.foldl mw s).1 ≤ s.1 + 8 * r.length
  | [], s, _ => ⟨Nat.le_refl _, Nat.le_refl _⟩
  | w :: r, s, h => by
    obtain ⟨h1, h2⟩ := fold_len r (mw s w) fun x hx => h x (List.mem_cons_of_mem _ hx)
    obtain ⟨o1, o2, _⟩ := h w List.mem_cons_self
    have h3 := mw_len s w
    have h4 := mw_n s w
    rw [List.foldl_cons, List.length_cons]
    exact ⟨by omega, by omega⟩
theorem whole_len {r : List Wd} (h : okR r) : (whole r).2.length ≤ 12 * r.length := by
  have := (fold_len r (0, []) h).1
  simp at this
  exact this
theorem whole_n {r : List Wd} (h : okR r) : (whole r).1 ≤ 8 * r.length := by
  have := (fold_len r (0, []) h).2
  simp at this
  exact this
theorem okR.take {r : List Wd} (h : okR r) (n : Nat) : okR (r.take n) := fun w hw => h w (List.mem_of_mem_take hw)
theorem okR.drop {r : List Wd} (h : okR r) (n : Nat) : okR (r.drop n) := fun w hw => h w (List.mem_of_mem_drop hw)
theorem okR.append {r t : List Wd} (h : okR r) (q : okR t) : okR (r ++ t) := fun w hw => (List.mem_append.mp hw).elim (h w) (q w)
theorem leastM_len : ∀ (n : Nat) (p : List Nat), (leastM n p).2.length ≤ p.length
  | 0, p => Nat.le_refl _
  | n + 1, [] => Nat.le_refl _
  | n + 1, p :: ps => by
    show (if p = 0 ∧ 0 ∉ ps then leastM n (ps.map (· - 1)) else (n + 1, p :: ps)).2.length ≤ _
    by_cases h : p = 0 ∧ 0 ∉ ps
    · rw [if_pos h]
      have := leastM_len n (ps.map (· - 1))
      rw [List.length_map] at this
      rw [List.length_cons]
      omega
    · rw [if_neg h]
      exact Nat.le_refl _
end Tk
end
section
namespace Tk
open PySem PySem.Spec PyProof.Rows L2
def okL (r : List Wd) : Prop := okR r ∧ r.length ≤ 1000
/-- a turn: where, how many, the new words -/
structure Tn where
  at_ : Nat
  many : Nat
  new : List Wd
def stretch (r : List Wd) (t : Tn) : List Wd := (r.drop t.at_).take t.many
def turnR (r : List Wd) (t : Tn) : List Wd := r.take t.at_ ++ t.new ++ r.drop (t.at_ + t.many)
def Tn.inR (t : Tn) (r : List Wd) : Prop := t.at_ + t.many ≤ r.length ∧ okL t.new
/-- a paper followed: the row that comes, or none where a turn is not let by -/
def goP : List Wd → List Tn → Option (List Wd)
  | r, [] => some r
  | r, t :: ts => if mapOf (stretch r t) = mapOf t.new then goP (turnR r t) ts else none
/-- all turns stand in their rows -/
def InR : List Wd → List Tn → Prop
  | r, [] => okL r
  | r, t :: ts => okL r ∧ t.inR r ∧ (mapOf (stretch r t) = mapOf t.new → InR (turnR r t) ts)
def fwdP : List Wd → List Tn → List Tn
  | _, [] => []
  | r, t :: ts => ⟨t.at_, t.new.length, stretch r t⟩ :: fwdP (turnR r t) ts
def backP (r : List Wd) (p : List Tn) : List Tn := (fwdP r p).reverse
theorem InR.okL : ∀ {r : List Wd} {p : List Tn}, InR r p → okL r
  | _, [], h => h
  | _, _ :: _, h => h.1
theorem stretch_ok {r : List Wd} (h : okL r) (t : Tn) : okL (stretch r t) := ⟨(h.1.drop _).take _, by
  have := h.2
  unfold stretch
  rw [List.length_take, List.length_drop]
  omega⟩
/-- a stack of data, and a shuffle's doing -/
def stepS {α : Type} (st : List α) (w : Wd) (z : α) : List α := st.take (st.length - w.n) ++ w.l.map fun k => st.getD (st.length - w.n + k) z
end Tk
end
section
namespace Tk
open PySem PySem.Spec PyProof.Rows L2
abbrev dI (n : Nat) : PD := .int (n : Int)
abbrev dIs (p : List Nat) : PD := .tuple (p.map dI)
abbrev dMp (s : Mp) : PD := .tuple [dI s.1, dIs s.2]
theorem dIs_ints (p : List Nat) : dIs p = .tuple ((p.map fun (k : Nat) => (k : Int)).map .int) := by rw [List.map_map]; rfl
theorem good_dIs (n : Nat) (p : List Nat) : good (n + 1) (dIs p) := by
  intro d hd
  obtain ⟨k, _, rfl⟩ := List.mem_map.mp hd
  cases n <;> trivial
theorem good_nil (n : Nat) : good (n + 1) (.tuple []) := fun d hd => nomatch hd
def G_least_map (ds : List PD) (d : PD) : Prop := ∃ (n : Nat) (p : List Nat), p.length ≤ 100000 ∧ ds = [dI n, dIs p] ∧ d = dMp (leastM n p)
section
variable {P : Program} {w : World} {K : PySem.W.Frag} {mg : Str → Option Value} {base : Heap}
theorem ok_least_map {f : Addr} {fd : FuncData} (B : Bt mg) (F : FnP K "least_map" sleast_map [] f fd) : FnOk P w K mg base CX0 1 f fd pleast_map (spD K G_least_map) := by
  refine fn_okD F cleast_map (fun ds d h => ?_) (fun cdv A outer s H E av ds d hr hG => ?_)
  · obtain ⟨n, p, _, rfl, _⟩ := h
    rfl
  · obtain ⟨n, p, hpl, rfl, rfl⟩ := hG
    refine ss_cons (s_while (fun k m' ρ' => ∃ (n' : Nat) (p' : List Nat), k = n' ∧ p'.length ≤ 100000 ∧ leastM n' p' = leastM n p ∧ m' = ⟨av, .no⟩ ∧ ρ' = [.im (dI n'), .im (dIs p'), .no]) n PassesOwn.never ⟨n, p, rfl, hpl, rfl, rfl, rfl⟩ ?_)
    rintro k m' ρ' ⟨_, p', rfl, hpl', hle, rfl, rfl⟩
    match k, p', hle, hpl' with
    | 0, p', hle, hpl' =>
      refine ⟨false, t_w (w_and (c := false) (d := false) (((t_gt (e_var 0) e_int)).is (by simp)) nf), nf, fun _ => ?_⟩
      exact ss_one (s_ret (e_tup (ea_c (e_var 0) (ea_c (e_var 1) ea_nil))) ⟨rfl, by rw [← hle]; rfl⟩)
    | n' + 1, [], hle, hpl' =>
      refine ⟨false, t_w (w_and (c := true) (d := false) (((t_gt (e_var 0) e_int)).is (by simp)) (fun _ => w_and (c := false) (d := false) ((t_ne (c := true) hr (e_var 1) (e_tup ea_nil) (by simp) (good_dIs 0 []) (good_nil 0))) nf)), nf, fun _ => ?_⟩
      exact ss_one (s_ret (e_tup (ea_c (e_var 0) (ea_c (e_var 1) ea_nil))) ⟨rfl, by rw [← hle]; rfl⟩)
    | n' + 1, q :: qs, hle, hpl' =>
      have hcut : cutP ((q :: qs).map dI) (some 1) none = qs.map dI := by
        unfold cutP
        rw [show HT.sIx ((q :: qs).map dI).length 0 (some 1) = 1 from by rw [show (1 : Int) = ((1 : Nat) : Int) from rfl, HT.sIx_nat]; simp]
        rw [HT.sIx_none, List.map_cons, List.drop_succ_cons, List.drop_zero, List.length_cons, Nat.add_sub_cancel, List.take_length]
      refine ⟨decide (q = 0) && !decide (0 ∈ qs), t_w ?_, fun z => ?_, fun z => ?_⟩
      · refine w_and (c := true) (d := decide (q = 0) && !decide (0 ∈ qs)) (((t_gt (e_var 0) e_int)).is (by simp)) (fun _ => ?_)
        refine w_and (c := true) (d := decide (q = 0) && !decide (0 ∈ qs)) (((t_ne (c := false) hr (e_var 1) (e_tup ea_nil) (by simp) (good_dIs 0 (q :: qs)) (good_nil 0))).is rfl) (fun _ => ?_)
        refine w_and (((t_eqI (e_ix (e_var 1) e_int (d := dI q) (atI_nat (j := 0) rfl)) e_int)).is (by simp)) (fun _ => w_and1 (((t_notInI (ns := qs.map fun (k : Nat) => (k : Int)) e_int ((e_slT (e_var 1) (o_some e_int) o_none).is ?_))).is ?_))
        · rw [hcut, List.map_map]
          rfl
        · simp
      · have z2 : q = 0 ∧ 0 ∉ qs := by simpa using z
        refine ss_cons (s_augI 0 cleast_map.nd ip_sub e_int ?_)
        refine ss_one (s_set 1 cleast_map.nd ((e_tupleP B.tuple ((el_lcT (x := "pick") (j := 2) (Pe := fun i d => d = dI (qs.getD i 0 - 1)) rfl cleast_map.nd rfl (fun _ _ _ _ _ => pg_name cleast_map.nd rfl (Or.inl rfl)) ((e_slT (e_var 1) (o_some e_int) o_none).is (congrArg PyData.tuple hcut)) (by rw [List.length_map]; simp at hpl'; omega) (fun i d hd s' H' C cl fp av' => ?_)).toE)).mono (P' := (· = dIs (qs.map (· - 1)))) ?_) ?_)
        · rw [List.getElem?_map] at hd
          cases e : qs[i]? with
          | none => rw [e] at hd; cases hd
          | some q1 =>
            rw [e] at hd
            cases hd
            refine (e_sub (e_var 2) e_int).is ?_
            have h1 : q1 ∈ qs := List.mem_of_getElem? e
            have h2 : q1 ≠ 0 := fun h => z2.2 (h ▸ h1)
            rw [List.getD_eq_getElem?_getD, e]
            show PyData.int ((q1 : Int) - 1) = PyData.int ((q1 - 1 : Nat) : Int)
            congr 1
            omega
        · rintro d ⟨ds, rfl, h1, h2⟩
          rw [List.length_map] at h1
          rw [list_of_get (n := qs.length) (f := fun i => dI (qs.getD i 0 - 1)) ⟨h1, h2⟩]
          show PyData.tuple _ = PyData.tuple _
          congr 1
          apply List.ext_getElem?
          intro i
          rw [List.getElem?_map, List.getElem?_map, List.getElem?_map]
          by_cases hi : i < qs.length
          · rw [List.getElem?_range hi, List.getElem?_eq_getElem hi]
            show some (dI (qs.getD i 0 - 1)) = some (dI (qs[i] - 1))
            rw [List.getD_eq_getElem?_getD, List.getElem?_eq_getElem hi]
            rfl
          · rw [List.getElem?_eq_none (by rw [List.length_range]; omega), List.getElem?_eq_none (by omega)]
            rfl
        · refine ⟨n', by omega, n', qs.map (· - 1), rfl, by rw [List.length_map]; simp at hpl'; omega, ?_, rfl, ?_⟩
          · rw [← hle, show leastM (n' + 1) (q :: qs) = if q = 0 ∧ 0 ∉ qs then leastM n' (qs.map (· - 1)) else (n' + 1, q :: qs) from rfl, if_pos z2]
          · show [Sl.im (.int (((n' + 1 : Nat) : Int) - 1)), _, _] = [Sl.im (.int (n' : Int)), _, _]
            rw [show (((n' + 1 : Nat) : Int) - 1) = (n' : Int) by omega]
      · refine ss_one (s_ret (e_tup (ea_c (e_var 0) (ea_c (e_var 1) ea_nil))) ⟨rfl, ?_⟩)
        rw [← hle]
        have z2 : ¬ (q = 0 ∧ 0 ∉ qs) := by
          intro h
          rw [h.1] at z
          simp [h.2] at z
        rw [show leastM (n' + 1) (q :: qs) = if q = 0 ∧ 0 ∉ qs then leastM n' (qs.map (· - 1)) else (n' + 1, q :: qs) from rfl, if_neg z2]
end
end Tk
end
section
namespace Tk
open PySem PySem.Spec PyProof.Rows L2
abbrev dW (w : Wd) : PD := .str (wtx w)
abbrev dRow (r : List Wd) : PD := .tuple (r.map dW)
/-- the module's constants -/
structure Cn (K : PySem.W.Frag) (mg : Str → Option Value) : Prop where
  letters : ∃ t, mg "LETTERS" = some (.str "abcdefgh" t)
  small : ∃ t, mg "SMALL" = some (.str "abcdefghijklmnopqrstuvwxyz" t)
  mls : ∃ t, mg "MOST_LEFT_shuffles" = some (.int 12 t)
  msg : ∃ t, mg "MOST_SIGNS" = some (.int 8 t)
  mmp : ∃ t, mg "MOST_MAPS" = some (.int 1200 t)
  bas : ∃ a, mg "BASICS" = some (.ref a) ∧ ∀ H, SqT K H a (basics.map V.str)
  nth : ∃ a b, mg "NOTHING" = some (.ref a) ∧ (∀ H, SqT K H a [.int 0, .ref b]) ∧ ∀ H, SqT K H b []
theorem kit_str : kitB "str" "str" = some true := by decide +kernel
theorem kit_tup : kitB "tuple" "tuple" = some true := by decide +kernel
theorem kit_int : kitB "int" "int" = some true := by decide +kernel
theorem kit_intb : kitB "int" "bool" = some false := by decide +kernel
section
variable {X : Cx} {m : Mm} {ρ : List Sl} {pos : Pos}
theorem e_gS {x : Str} {z : Str} (h : ∃ t, X.mg x = some (.str z t)) (hg : Gl X x := by rfl) (hd : (x == ("__debug__" : Str)) = false := by decide) : E X m (.Name x pos) ρ (· = .str z) := by
  obtain ⟨t, h⟩ := h
  exact e_glob ⟨.str z, _, h, ⟨t, rfl⟩, fun _ _ => .str z⟩ hg hd
theorem e_gI {x : Str} {z : Int} (h : ∃ t, X.mg x = some (.int z t)) (hg : Gl X x := by rfl) (hd : (x == ("__debug__" : Str)) = false := by decide) : E X m (.Name x pos) ρ (· = .int z) := by
  obtain ⟨t, h⟩ := h
  exact e_glob ⟨.int z, _, h, ⟨t, rfl⟩, fun _ _ => .int z⟩ hg hd
theorem e_gBas {x : Str} (h : ∃ a, X.mg x = some (.ref a) ∧ ∀ H, SqT X.K H a (basics.map V.str)) (hg : Gl X x := by rfl) (hd : (x == ("__debug__" : Str)) = false := by decide) : E X m (.Name x pos) ρ (· = .tuple (basics.map .str)) := by
  obtain ⟨a, h1, h2⟩ := h
  exact e_glob ⟨.ref a, _, h1, rfl, fun _ H => .tup (h2 H) (RpA.ofStrs _)⟩ hg hd
end
def G_is_shuffle (ds : List PD) (d : PD) : Prop := ∃ w : Wd, w.ok ∧ ds = [dW w] ∧ d = .bool true
def G_taken_left (ds : List PD) (d : PD) : Prop := ∃ w : Wd, w.ok ∧ ds = [dW w] ∧ d = .tuple [dI w.n, dIs w.l]
def G_map_with (ds : List PD) (d : PD) : Prop := ∃ (s : Mp) (w : Wd), w.ok ∧ s.2.length ≤ 100000 ∧ ds = [dI s.1, dIs s.2, dW w] ∧ d = dMp (mw s w)
theorem ltx_out {n : Nat} (h : n ≤ 8) : (ltx n).cps.toList = lts n := rfl
section
variable {P : Program} {wd : World} {K : PySem.W.Frag} {mg : Str → Option Value} {base : Heap}
theorem ok_is_shuffle {f : Addr} {fd : FuncData} (B : Bt mg) (C : Cn K mg) (F : FnP K "is_shuffle" sis_shuffle [] f fd) : FnOk P wd K mg base CX0 1 f fd pis_shuffle (spD K G_is_shuffle) := by
  refine fn_okD F cis_shuffle (fun ds d h => ?_) (fun cdv A outer s H E av ds d hr hG => ?_)
  · obtain ⟨w, _, rfl, _⟩ := h
    rfl
  · obtain ⟨w, hw, rfl, rfl⟩ := hG
    obtain ⟨h1, h2, h3⟩ := hw
    have hnd := cis_shuffle.nd
    refine ss_cons (s_if (c := false) ((t_not (t_e (e_isi (x := dW w) (c := true) (T := "str") B.isi B.str (e_var 0) (by decide +kernel) kit_str))).is rfl) nf fun _ => ss_nil ?_)
    refine ss_cons (s_set 1 hnd (e_split (e_var 0) e_str (by decide) (by rw [wtx_len]; omega)) ?_)
    rw [split_w]
    refine ss_cons (s_if (c := false) ((t_w (w_or (c := false) (d := false) ((t_neI (e_len B.len (e_var 1) rfl) e_int).is (by simp)) (fun _ => w_or (c := false) (d := false) ((t_gt (e_len (n := w.l.length) B.len (e_ixL (e_var 1) e_int (d := .str (ttx w.l)) (atI_nat (j := 1) rfl)) (by show (if (ttx w.l).length ≤ _ then some (ttx w.l).length else none) = _; rw [ttx_len, if_pos (by omega)])) (e_gI C.mls)).is (by simp; omega)) (fun _ => w_or1 (c := false) ((t_neS (i := ltx w.n) (j := ltx w.n) (e_ixL (e_var 1) e_int (atI_nat (j := 0) rfl)) ((e_slS (e_gS C.letters) (by decide) o_none (o_some (e_len (n := w.n) B.len (e_ixL (e_var 1) e_int (d := .str (ltx w.n)) (atI_nat (j := 0) rfl)) (by show (if (ltx w.n).length ≤ _ then some (ltx w.n).length else none) = _; rw [ltx_len, if_pos (by omega)])))).is (congrArg PyData.str (abc_cut w.n h1)))).is (by simp))))))) nf fun _ => ss_nil ?_)
    refine ss_one (s_ret (e_all (bs := (tls w.l).map fun _ => true) rfl B.all (EL.im ?_)) ⟨rfl, ?_⟩)
    · rw [List.map_map]
      refine el_mapS (z := ttx w.l) 2 hnd (e_ixL (e_var 1) e_int (atI_nat (j := 1) rfl)) (by rw [ttx_len]; omega) (fun c hc s H C cl fp av => ?_)
      refine (e_inSign (e_var 2) (e_ixL (e_var 1) e_int (d := .str (ltx w.n)) (atI_nat (j := 0) rfl))).is ?_
      obtain ⟨k, hk, rfl⟩ := List.mem_map.mp hc
      show PyData.bool (decide (k + 97 ∈ lts w.n)) = _
      rw [decide_eq_true (in_lts (h3 k hk))]
      rfl
    · rw [List.all_map]
      show PyData.bool ((tls w.l).all fun _ => true) = PyData.bool true
      simp
theorem ok_taken_left {f : Addr} {fd : FuncData} (B : Bt mg) (F : FnP K "taken_left" staken_left [] f fd) : FnOk P wd K mg base CX0 1 f fd ptaken_left (spD K G_taken_left) := by
  refine fn_okD F ctaken_left (fun ds d h => ?_) (fun cdv A outer s H E av ds d hr hG => ?_)
  · obtain ⟨w, _, rfl, _⟩ := h
    rfl
  · obtain ⟨w, hw, rfl, rfl⟩ := hG
    obtain ⟨h1, h2, h3⟩ := hw
    have hnd := ctaken_left.nd
    refine ss_cons (s_unpL [1, 2] (pg_unl rfl (pgs_cons (pg_name hnd rfl (by first | exact Or.inl rfl | exact Or.inr rfl)) (pgs_cons (pg_name hnd rfl (by first | exact Or.inl rfl | exact Or.inr rfl)) pgs_nil))) (e_split (e_var 0) e_str (by decide) (by rw [wtx_len]; omega)) (by rw [split_w]; rfl) ?_)
    rw [split_w]
    refine ss_one (s_ret (e_tup (ea_c (e_len (n := w.n) B.len (e_var 1) (by show (if (ltx w.n).length ≤ _ then some (ltx w.n).length else none) = _; rw [ltx_len, if_pos (by omega)])) (ea_c (e_tuple B.tuple (EL.im (el_mapS (z := ttx w.l) (h := fun c => .int ((c - 97 : Nat) : Int)) 3 hnd (e_var 2) (by rw [ttx_len]; omega) (fun c hc s H C cl fp av => ?_)))) ea_nil))) ⟨rfl, ?_⟩)
    · obtain ⟨k, hk, rfl⟩ := List.mem_map.mp hc
      exact (e_sindex (e_var 1) (e_var 3) (occ_lt w.n h1 k (h3 k hk))).is (by rw [Nat.add_sub_cancel])
    · show PyData.tuple [_, PyData.tuple ((tls w.l).map _)] = _
      unfold tls
      rw [List.map_map]
      show _ = PyData.tuple [_, PyData.tuple (w.l.map dI)]
      congr 3
theorem ok_map_with {f : Addr} {fd : FuncData} (B : Bt mg) (TL : CalD P wd K mg base CX0 1 "taken_left" ptaken_left [] (spD K G_taken_left)) (F : FnP K "map_with" smap_with [] f fd) : FnOk P wd K mg base CX0 2 f fd pmap_with (spD K G_map_with) := by
  refine fn_okD F cmap_with (fun ds d h => ?_) (fun cdv A outer s H E av ds d hr hG => ?_)
  · obtain ⟨_, w, _, _, rfl, _⟩ := h
    rfl
  · obtain ⟨⟨n, q⟩, w, hw, hq, rfl, rfl⟩ := hG
    have hw' := hw
    obtain ⟨h1, h2, h3⟩ := hw
    have hnd := cmap_with.nd
    refine ss_cons (s_unp [3, 4] (pg_tup rfl (pgs_cons (pg_name hnd rfl (by first | exact Or.inl rfl | exact Or.inr rfl)) (pgs_cons (pg_name hnd rfl (by first | exact Or.inl rfl | exact Or.inr rfl)) pgs_nil))) (c_call E0 TL hr (by decide) pass0 (ea_c (e_var 2) ea_nil) ⟨w, hw', rfl, rfl⟩) rfl ?_)
    have fin : ∀ (n2 : Nat) (q2 : List Nat) (s5 : Sl), w.n ≤ q2.length → q2.length ≤ 200000 → SS (cxOf CX0 P wd K mg base Nmap_with "map_with" (defScope smap_with) f cdv A outer s H E).nox ((defBody smap_with).drop 3) ⟨av, .no⟩ [.im (dI n2), .im (dIs q2), .im (dW w), .im (dI w.n), .im (dIs w.l), s5, .no, .no, .no]
        (retD (dMp (n2, q2.take (q2.length - w.n) ++ w.l.map fun k => q2.getD (q2.length - w.n + k) 0))) := by
      intro n2 q2 s5 hq2 hl2
      have hl2' : q2.length ≤ 1000000 := by omega
      refine ss_cons (s_set 7 hnd ((e_sub (e_len B.len (e_var 1) rfl) (e_var 3)).is (d' := dI (q2.length - w.n)) ?_) ?_)
      · rw [List.length_map]
        show PyData.int _ = PyData.int _
        congr 1
        omega
      refine ss_one (s_ret (e_tup (ea_c (e_var 0) (ea_c (e_cat ((e_slT (e_var 1) o_none (o_some (e_var 7))).is (congrArg PyData.tuple (cut_to (by omega)))) (e_tuple B.tuple (EL.im (el_mapT (f := fun k => dI (q2.getD (q2.length - w.n + k) 0)) 8 hnd (e_var 4) (by omega) (fun k hk s H C cl fp av => ?_)))) (by rw [List.length_map, List.length_map, List.length_take]; omega)) ea_nil))) ⟨rfl, ?_⟩)
      · have hk' := h3 k hk
        have hlt : q2.length - w.n + k < q2.length := by omega
        refine e_ix (e_var 1) ((e_add (e_var 7) (e_var 8)).is (d' := .int ((q2.length - w.n + k : Nat) : Int)) (by congr 1)) (atI_map ?_)
        rw [List.getD_eq_getElem?_getD, List.getElem?_eq_getElem hlt]
        rfl
      · show PyData.tuple [_, PyData.tuple _] = PyData.tuple [_, PyData.tuple _]
        rw [List.map_append, List.map_map] <;> rfl
    by_cases hlk : q.length < w.n
    · have e0 : mw (n, q) w = (n + (w.n - q.length), (List.range (w.n - q.length) ++ q.map (· + (w.n - q.length))).take ((List.range (w.n - q.length) ++ q.map (· + (w.n - q.length))).length - w.n) ++ w.l.map fun k => (List.range (w.n - q.length) ++ q.map (· + (w.n - q.length))).getD ((List.range (w.n - q.length) ++ q.map (· + (w.n - q.length))).length - w.n + k) 0) := by
        unfold mw
        dsimp only
        rw [List.length_append, List.length_range, List.length_map]
      rw [e0]
      refine ss_cons (s_set 5 hnd ((e_sub (e_var 3) (e_len (n := q.length) B.len (e_var 1) (by show some (q.map dI).length = _; rw [List.length_map]))).is (d' := dI (w.n - q.length)) (by show PyData.int _ = PyData.int _; congr 1; omega)) ?_)
      refine ss_cons (s_if (c := true) ((t_gt (e_var 5) e_int).is (by simp; omega)) (fun _ => ?_) tf)
      refine ss_cons (s_augI 0 hnd ip_add (e_var 5) ?_)
      refine ss_one (s_set 1 hnd (e_cat ((e_tupRg rfl B.tuple B.range (e_var 5) (by omega) (by omega)).is (d' := .tuple ((List.range (w.n - q.length)).map dI)) (by rw [Int.toNat_natCast])) (e_tuple B.tuple (EL.im (el_mapT (f := fun k => dI (k + (w.n - q.length))) 6 hnd (e_var 1) (by omega) (fun k hk s H C cl fp av => (e_add (e_var 6) (e_var 5)).is (by congr 1))))) (by rw [List.length_map, List.length_map, List.length_range]; omega)) ?_)
      have := fin (n + (w.n - q.length)) (List.range (w.n - q.length) ++ q.map (· + (w.n - q.length))) (.im (dI (w.n - q.length))) (by rw [List.length_append, List.length_range, List.length_map]; omega) (by rw [List.length_append, List.length_range, List.length_map]; dsimp only at hq; omega)
      rw [show dIs (List.range (w.n - q.length) ++ q.map (· + (w.n - q.length))) = .tuple ((List.range (w.n - q.length)).map dI ++ q.map (fun k => dI (k + (w.n - q.length)))) from by show PyData.tuple _ = PyData.tuple _; rw [List.map_append, List.map_map]; rfl] at this
      exact this
    · have e0 : mw (n, q) w = (n, q.take (q.length - w.n) ++ w.l.map fun k => q.getD (q.length - w.n + k) 0) := by
        unfold mw
        dsimp only
        rw [show w.n - q.length = 0 by omega]
        simp
      rw [e0]
      refine ss_cons (s_set 5 hnd (e_sub (e_var 3) (e_len B.len (e_var 1) rfl)) ?_)
      refine ss_cons (s_if (c := false) ((t_gt (e_var 5) e_int).is (by rw [List.length_map]; simp; omega)) nf (fun _ => ss_nil ?_))
      exact fin n q _ (by omega) (by dsimp only at hq; omega)
end
end Tk
end
section
namespace Tk
open PySem PySem.Spec PyProof.Rows L2

abbrev dNum (k : Nat) : PD := .tuple [.str "number", dI k]
abbrev dSt (l : List Nat) : PD := .tuple (l.map dNum)
def G_row (g : List Wd → PD) (ds : List PD) (d : PD) : Prop := ∃ r, okL r ∧ ds = [dRow r] ∧ d = g r
def partD (one other : List Wd) : PD := if mapOf one = mapOf other then .none else dSt (List.range (max (whole one).1 (whole other).1))
def G_parting (ds : List PD) (d : PD) : Prop := ∃ r t, okL r ∧ okL t ∧ ds = [dRow r, dRow t] ∧ d = partD r t
theorem flat_dW (w : Wd) : flatD 0 (dW w) := trivial
theorem flat_dRow (r : List Wd) : ∀ d ∈ r.map dW, flatD 0 d := fun d hd => by
  obtain ⟨w, _, rfl⟩ := List.mem_map.mp hd
  trivial
theorem row_get {r : List Wd} {i : Nat} {d : PD} (h : (r.map dW)[i]? = some d) : ∃ w, r[i]? = some w ∧ d = dW w := by
  rw [List.getElem?_map] at h
  cases e : r[i]? with
  | none => rw [e] at h; cases h
  | some w => rw [e] at h; cases h; exact ⟨w, rfl, rfl⟩
theorem dMp_inj {s t : Mp} : dMp s = dMp t ↔ s = t := by
  constructor
  · intro h
    obtain ⟨n, p⟩ := s
    obtain ⟨k, q⟩ := t
    have h' : PyData.tuple [PyData.int (n : Int), PyData.tuple (p.map dI)] = PyData.tuple [PyData.int (k : Int), PyData.tuple (q.map dI)] := h
    injection h' with h'
    injection h' with h1 h2
    injection h1 with h1
    injection h2 with h2 _
    injection h2 with h2
    have e1 : n = k := by omega
    have e2 : p = q := (List.map_inj_right (fun x y e => by injection e with e; omega)).mp h2
    rw [e1, e2]
  · intro h
    rw [h]
theorem good_dMp (s : Mp) : good 2 (dMp s) := by
  intro d hd
  rcases List.mem_cons.mp hd with rfl | hd
  · trivial
  · rcases List.mem_cons.mp hd with rfl | hd
    · exact good_dIs 0 _
    · cases hd
section
variable {X : Cx} {m : Mm} {a b c : Expr} {ρ : List Sl} {pos : Pos}
/-- i <= j <= k, both asked -/
theorem t_le2 {i j k : Int} (ha : E X m a ρ (· = .int i)) (hb : E X m b ρ (· = .int j)) (hc : E X m c ρ (· = .int k)) (h1 : i ≤ j) (hm : lastMarks [.LtE, .LtE] [b, c] = false := by with_unfolding_all rfl) : T X m (.Compare a [.LtE, .LtE] [b, c] pos) ρ (decide (j ≤ k)) := fun H0 av0 σ H en Q kk =>
  wt_of (pt_chain op_le op_le pe_we pe_we pe_we hm) (ha H0 av0 σ H en _ fun v d H1 k1 o1 r1 p1 => hb H0 av0 σ H1 (en.step k1 o1) _ fun v2 d2 H2 k2 o2 r2 p2 => by
    subst p1 p2
    cases r1
    cases r2
    refine ⟨i, j, rfl, rfl, true, by show V.bl (decide (i ≤ j)) = _; rw [decide_eq_true h1], iteT (hc H0 av0 σ H2 ((en.step k1 o1).step k2 o2) _ fun v3 d3 H3 k3 o3 r3 p3 => ?_)⟩
    subst p3
    cases r3
    exact ⟨j, k, rfl, rfl, decide (j ≤ k), rfl, kk H3 ((k1.trans k2).trans k3) o3⟩)
end
section
variable {P : Program} {wd : World} {K : PySem.W.Frag} {mg : Str → Option Value} {base : Heap}
theorem ok_whole_map {f : Addr} {fd : FuncData} (B : Bt mg) (IS : CalD P wd K mg base CX0 1 "is_shuffle" pis_shuffle [] (spD K G_is_shuffle)) (MW : CalD P wd K mg base CX0 2 "map_with" pmap_with [] (spD K G_map_with)) (F : FnP K "whole_map" swhole_map [] f fd) : FnOk P wd K mg base CX0 3 f fd pwhole_map (spD K (G_row fun r => dMp (whole r))) := by
  refine fn_okD F cwhole_map (fun ds d h => ?_) (fun cdv A outer s H E av ds d hr hG => ?_)
  · obtain ⟨r, _, rfl, _⟩ := h
    rfl
  · obtain ⟨r, ⟨ho, hl⟩, rfl, rfl⟩ := hG
    have hnd := cwhole_map.nd
    refine ss_cons (s_set 1 hnd e_int ?_)
    refine ss_cons (s_set 2 hnd (e_tup ea_nil) ?_)
    refine ss_cons (s_forT 3 (fun i m' ρ' => ∃ s3, m' = ⟨av, .no⟩ ∧ ρ' = [.im (dRow r), .im (dI (whole (r.take i)).1), .im (dIs (whole (r.take i)).2), s3]) rfl hnd PassesOwn.never (e_var 0) (flat_dRow r) ⟨.no, rfl, rfl⟩ ?_ ?_)
    · rintro i d m' ρ' hd ⟨s3, rfl, rfl⟩
      obtain ⟨w, hw, rfl⟩ := row_get hd
      have hwo := ho w (List.mem_of_getElem? hw)
      refine ss_cons (s_if (c := false) ((t_not (t_e (c_call E0 IS hr (by decide) pass0 (ea_c (e_var 3) ea_nil) ⟨w, hwo, rfl, rfl⟩))).is rfl) nf fun _ => ss_nil ?_)
      refine ss_one (s_unp [1, 2] (pg_tup rfl (pgs_cons (pg_name hnd rfl (by first | exact Or.inl rfl | exact Or.inr rfl)) (pgs_cons (pg_name hnd rfl (by first | exact Or.inl rfl | exact Or.inr rfl)) pgs_nil))) (c_call E0 MW hr (by decide) pass0 (ea_c (e_var 1) (ea_c (e_var 2) (ea_c (e_var 3) ea_nil))) ⟨whole (r.take i), w, hwo, ?_, rfl, rfl⟩) rfl ?_)
      · have := whole_len (ho.take i)
        rw [List.length_take] at this
        omega
      · exact ⟨_, rfl, by rw [whole_take hw]; rfl⟩
    · rintro m' ρ' ⟨s3, rfl, rfl⟩
      refine ss_one (s_ret (e_tup (ea_c (e_var 1) (ea_c (e_var 2) ea_nil))) ⟨rfl, ?_⟩)
      rw [List.length_map, List.take_length]
theorem ok_map_of {f : Addr} {fd : FuncData} (WM : CalD P wd K mg base CX0 3 "whole_map" pwhole_map [] (spD K (G_row fun r => dMp (whole r)))) (LM : CalD P wd K mg base CX0 1 "least_map" pleast_map [] (spD K G_least_map)) (F : FnP K "map_of" smap_of [] f fd) : FnOk P wd K mg base CX0 4 f fd pmap_of (spD K (G_row fun r => dMp (mapOf r))) := by
  refine fn_okD F cmap_of (fun ds d h => ?_) (fun cdv A outer s H E av ds d hr hG => ?_)
  · obtain ⟨r, _, rfl, _⟩ := h
    rfl
  · obtain ⟨r, ⟨ho, hl⟩, rfl, rfl⟩ := hG
    have hnd := cmap_of.nd
    refine ss_cons (s_unp [1, 2] (pg_tup rfl (pgs_cons (pg_name hnd rfl (by first | exact Or.inl rfl | exact Or.inr rfl)) (pgs_cons (pg_name hnd rfl (by first | exact Or.inl rfl | exact Or.inr rfl)) pgs_nil))) (c_call E0 WM hr (by decide) pass0 (ea_c (e_var 0) ea_nil) ⟨r, ⟨ho, hl⟩, rfl, rfl⟩) rfl ?_)
    refine ss_one (s_ret (c_call E0 LM hr (by decide) pass0 (ea_c (e_var 1) (ea_c (e_var 2) ea_nil)) ⟨(whole r).1, (whole r).2, ?_, rfl, rfl⟩) ⟨rfl, rfl⟩)
    have := whole_len ho
    omega
theorem ok_need_of {f : Addr} {fd : FuncData} (WM : CalD P wd K mg base CX0 3 "whole_map" pwhole_map [] (spD K (G_row fun r => dMp (whole r)))) (F : FnP K "need_of" sneed_of [] f fd) : FnOk P wd K mg base CX0 4 f fd pneed_of (spD K (G_row fun r => dI (whole r).1)) := by
  refine fn_okD F cneed_of (fun ds d h => ?_) (fun cdv A outer s H E av ds d hr hG => ?_)
  · obtain ⟨r, _, rfl, _⟩ := h
    rfl
  · obtain ⟨r, ⟨ho, hl⟩, rfl, rfl⟩ := hG
    exact ss_one (s_ret (e_ix (c_call E0 WM hr (by decide) pass0 (ea_c (e_var 0) ea_nil) ⟨r, ⟨ho, hl⟩, rfl, rfl⟩) e_int (atI_nat (j := 0) rfl)) ⟨rfl, rfl⟩)
theorem ok_parting {f : Addr} {fd : FuncData} (B : Bt mg) (NO : CalD P wd K mg base CX0 4 "need_of" pneed_of [] (spD K (G_row fun r => dI (whole r).1))) (MO : CalD P wd K mg base CX0 4 "map_of" pmap_of [] (spD K (G_row fun r => dMp (mapOf r)))) (F : FnP K "parting" sparting [] f fd) : FnOk P wd K mg base CX0 5 f fd pparting (spD K G_parting) := by
  refine fn_okD F cparting (fun ds d h => ?_) (fun cdv A outer s H E av ds d hr hG => ?_)
  · obtain ⟨r, t, _, _, rfl, _⟩ := h
    rfl
  · obtain ⟨r, t, hro, hto, rfl, rfl⟩ := hG
    have hnd := cparting.nd
    have b1 := whole_n hro.1
    have b2 := whole_n hto.1
    have b3 := hro.2
    have b4 := hto.2
    refine ss_cons (s_set 2 hnd ((e_max rfl B.max (c_call E0 NO hr (by decide) pass0 (ea_c (e_var 0) ea_nil) ⟨r, hro, rfl, rfl⟩) (c_call E0 NO hr (by decide) pass0 (ea_c (e_var 1) ea_nil) ⟨t, hto, rfl, rfl⟩)).is (d' := dI (max (whole r).1 (whole t).1)) ?_) ?_)
    · show PyData.int _ = PyData.int _
      congr 1
      split <;> omega
    refine ss_cons (s_if (c := decide (mapOf r = mapOf t)) (t_eq hr (c_call E0 MO hr (by decide) pass0 (ea_c (e_var 0) ea_nil) ⟨r, hro, rfl, rfl⟩) (c_call E0 MO hr (by decide) pass0 (ea_c (e_var 1) ea_nil) ⟨t, hto, rfl, rfl⟩) (by rw [dMp_inj, decide_eq_true_iff]) (good_dMp _) (good_dMp _)) (fun z => ?_) (fun z => ss_nil ?_))
    · exact ss_one (s_ret e_non ⟨rfl, by unfold partD; rw [if_pos (of_decide_eq_true z)]⟩)
    · refine ss_one (s_ret (e_tuple B.tuple (EL.im (el_mapR (h := dNum) 3 hnd B.range (e_var 2) (by omega) (fun i s H C cl fp av => e_tup (ea_c e_str (ea_c (e_var 3) ea_nil)))))) ⟨rfl, ?_⟩)
      unfold partD
      rw [if_neg (of_decide_eq_false z)]
def G_is_name (ds : List PD) (d : PD) : Prop := ∃ w : Wd, w.ok ∧ ds = [dW w] ∧ d = .bool false
theorem ok_is_name {f : Addr} {fd : FuncData} (B : Bt mg) (C : Cn K mg) (F : FnP K "is_name" sis_name [] f fd) : FnOk P wd K mg base CX0 1 f fd pis_name (spD K G_is_name) := by
  refine fn_okD F cis_name (fun ds d h => ?_) (fun cdv A outer s H E av ds d hr hG => ?_)
  · obtain ⟨w, _, rfl, _⟩ := h
    rfl
  · obtain ⟨w, hw, rfl, rfl⟩ := hG
    obtain ⟨h1, h2, h3⟩ := hw
    have hnd := cis_name.nd
    have hL := wtx_len w
    have pl : plen (dW w) = some (wtx w).length := by
      show (if (wtx w).length ≤ _ then some (wtx w).length else none) = _
      rw [if_pos (by omega)]
    refine ss_cons (s_if (c := !decide (((wtx w).length : Int) ≤ 8)) (t_w ((w_or (c := false) (d := !decide (((wtx w).length : Int) ≤ 8)) ((t_not (t_e (e_isi (x := dW w) (c := true) (T := "str") B.isi B.str (e_var 0) (by decide +kernel) kit_str))).is rfl) (fun _ => ?_)))) (fun _ => ss_one (s_ret e_bl ⟨rfl, rfl⟩)) (fun _ => ss_nil ?_))
    · by_cases h8 : ((wtx w).length : Int) ≤ 8
      · refine w_or (c := false) (d := !decide (((wtx w).length : Int) ≤ 8)) ((t_not (t_le2 e_int (e_len B.len (e_var 0) pl) (e_gI C.msg) (by omega))).is (by simp [h8])) (fun _ => w_or1 ((t_inSs (e_var 0) (e_gBas C.bas)).is ?_))
        rw [decide_eq_false (not_basic w)]
        simp [h8]
      · rw [show (!decide (((wtx w).length : Int) ≤ 8)) = true by simp [h8]]
        exact w_or (c := true) (d := true) ((t_not (t_le2 e_int (e_len B.len (e_var 0) pl) (e_gI C.msg) (by omega))).is (by simp [h8])) tf
    · refine ss_one (s_ret (e_all (bs := (wtx w).cps.toList.map fun c => decide (c ∈ ("abcdefghijklmnopqrstuvwxyz" : Str).cps.toList)) rfl B.all (EL.im ?_)) ⟨rfl, ?_⟩)
      · rw [List.map_map]
        exact el_mapS (z := wtx w) 1 hnd (e_var 0) (by omega) (fun c hc s H C' cl fp av => e_inSign (e_var 1) (e_gS C.small))
      · congr 1
        rw [List.all_map, ← Bool.not_eq_true, List.all_eq_true]
        intro h
        have := h 45 (has45 w)
        exact small_no45 (of_decide_eq_true this)
def G_is_word (ds : List PD) (d : PD) : Prop := ∃ w : Wd, w.ok ∧ ds = [dW w] ∧ d = .bool true
theorem ok_is_word {f : Addr} {fd : FuncData} (B : Bt mg) (C : Cn K mg) (IS : CalD P wd K mg base CX0 1 "is_shuffle" pis_shuffle [] (spD K G_is_shuffle)) (NM : CalD P wd K mg base CX0 1 "is_name" pis_name [] (spD K G_is_name)) (F : FnP K "is_word" sis_word [] f fd) : FnOk P wd K mg base CX0 2 f fd pis_word (spD K G_is_word) := by
  refine fn_okD F cis_word (fun ds d h => ?_) (fun cdv A outer s H E av ds d hr hG => ?_)
  · obtain ⟨w, _, rfl, _⟩ := h
    rfl
  · obtain ⟨w, hw, rfl, rfl⟩ := hG
    refine ss_cons (s_if (c := true) (t_e (e_isi (x := dW w) (c := true) (T := "str") B.isi B.str (e_var 0) (by decide +kernel) kit_str)) (fun _ => ?_) tf)
    refine ss_one (s_ret (e_or (c := false) (d := true) ((e_inSs (e_var 0) (e_gBas C.bas)).is (by rw [decide_eq_false (not_basic w)])) (fun _ => e_or (c := false) (d := true) (c_call E0 NM hr (by decide) pass0 (ea_c (e_var 0) ea_nil) ⟨w, hw, rfl, rfl⟩) (fun _ => e_one (c_call E0 IS hr (by decide) pass0 (ea_c (e_var 0) ea_nil) ⟨w, hw, rfl, rfl⟩)))) ⟨rfl, rfl⟩)
theorem ok_is_row {f : Addr} {fd : FuncData} (B : Bt mg) (IW : CalD P wd K mg base CX0 2 "is_word" pis_word [] (spD K G_is_word)) (F : FnP K "is_row" sis_row [] f fd) : FnOk P wd K mg base CX0 3 f fd pis_row (spD K (G_row fun _ => .bool true)) := by
  refine fn_okD F cis_row (fun ds d h => ?_) (fun cdv A outer s H E av ds d hr hG => ?_)
  · obtain ⟨r, _, rfl, _⟩ := h
    rfl
  · obtain ⟨r, ⟨ho, hl⟩, rfl, rfl⟩ := hG
    have hnd := cis_row.nd
    refine ss_one (s_ret (e_and (c := true) (d := true) (e_isi (x := dRow r) (c := true) (T := "tuple") B.isi B.tuple (e_var 0) (by decide +kernel) kit_tup) (fun _ => e_one ((e_all (bs := r.map fun _ => true) rfl B.all (EL.im ?_)).is ?_))) ⟨rfl, rfl⟩)
    · rw [List.map_map]
      exact el_mapT 1 hnd (e_var 0) (by omega) (fun w hw s H C cl fp av => c_call E0 IW hr (by decide) pass0 (ea_c (e_var 1) ea_nil) ⟨w, ho w hw, rfl, rfl⟩)
    · rw [List.all_map]
      congr 1
      simp
/-- said, of None or a tuple -/
def saidD : PD → PD
  | .none => .tuple []
  | d => d
theorem ok_said {f : Addr} {fd : FuncData} (F : FnP K "said" ssaid [] f fd) : FnOk P wd K mg base CX0 1 f fd psaid (spD K fun ds d => ∃ x, ds = [x] ∧ d = saidD x) := by
  refine fn_okD F csaid (fun ds d h => ?_) (fun cdv A outer s H E av ds d hr hG => ?_)
  · obtain ⟨r, rfl, _⟩ := h
    rfl
  · obtain ⟨x, rfl, rfl⟩ := hG
    refine ss_cons (s_if (c := isNone x) (t_isN (e_var 0) e_non) (fun z => ss_one (s_ret (e_tup ea_nil) ⟨rfl, ?_⟩)) (fun z => ss_nil (ss_one (s_ret (e_var 0) ⟨rfl, ?_⟩))))
    · cases x <;> first | rfl | cases z
    · cases x <;> first | rfl | cases z
theorem ok_are_r {f : Addr} {fd : FuncData} (B : Bt mg) (IS : CalD P wd K mg base CX0 1 "is_shuffle" pis_shuffle [] (spD K G_is_shuffle)) (F : FnP K "are_shuffles" sare_shuffles_rules [] f fd) : FnOk P wd K mg base CX0 2 f fd pare_shuffles_rules (spD K (G_row fun _ => .bool true)) := by
  refine fn_okD F care_shuffles_rules (fun ds d h => ?_) (fun cdv A outer s H E av ds d hr hG => ?_)
  · obtain ⟨r, _, rfl, _⟩ := h
    rfl
  · obtain ⟨r, ⟨ho, hl⟩, rfl, rfl⟩ := hG
    have hnd := care_shuffles_rules.nd
    refine ss_one (s_ret (e_all (bs := r.map fun _ => true) rfl B.all (EL.im ?_)) ⟨rfl, ?_⟩)
    · rw [List.map_map]
      exact el_mapT 1 hnd (e_var 0) (by omega) (fun w hw s H C cl fp av => c_call E0 IS hr (by decide) pass0 (ea_c (e_var 1) ea_nil) ⟨w, ho w hw, rfl, rfl⟩)
    · rw [List.all_map]
      congr 1
      simp
theorem ok_are_a {f : Addr} {fd : FuncData} (B : Bt mg) (IS : CalD P wd K mg base CX0 1 "is_shuffle" pis_shuffle [] (spD K G_is_shuffle)) (F : FnP K "are_shuffles" sare_shuffles_alike [] f fd) : FnOk P wd K mg base CX0 2 f fd pare_shuffles_alike (spD K (G_row fun _ => .bool true)) := by
  refine fn_okD F care_shuffles_alike (fun ds d h => ?_) (fun cdv A outer s H E av ds d hr hG => ?_)
  · obtain ⟨r, _, rfl, _⟩ := h
    rfl
  · obtain ⟨r, ⟨ho, hl⟩, rfl, rfl⟩ := hG
    have hnd := care_shuffles_alike.nd
    refine ss_one (s_ret (e_all (bs := r.map fun _ => true) rfl B.all (EL.im ?_)) ⟨rfl, ?_⟩)
    · rw [List.map_map]
      exact el_mapT 1 hnd (e_var 0) (by omega) (fun w hw s H C cl fp av => c_call E0 IS hr (by decide) pass0 (ea_c (e_var 1) ea_nil) ⟨w, ho w hw, rfl, rfl⟩)
    · rw [List.all_map]
      congr 1
      simp
end
end Tk
end
section
namespace Tk
open PySem PySem.Spec PyProof.Rows L2
section
variable {X : Cx} {m : Mm} {e a b : Expr} {es : List Expr} {ρ : List Sl} {P : PD → Prop} {pos p p2 p3 : Pos} {k : Nat} {D : Nd} {body : List Stmt}
theorem e_neg {i : Int} (h : E X m a ρ (· = .int i)) : E X m (.UnaryOp .USub a pos) ρ (· = .int (-i)) := fun H0 av0 σ H en Q k =>
  we_of (pe_un un_neg pe_we) (h H0 av0 σ H en _ fun v d H1 k1 o1 r1 p1 => by
    subst p1
    cases r1
    exact ⟨i, rfl, k _ _ H1 k1 o1 (.int _) rfl⟩)
/-- xs[::-1] -/
theorem el_rev {ds : List PD} {j : Nat} {pa pb pc : Pos} (h : E X m a ρ (· = .list ds)) : EL X m (.Subscript a (.Slice none none (some (.UnaryOp .USub (.Constant (.int 1) j pa) pb)) pc) pos) ρ (· = ds.reverse) := fun H0 av0 σ H en Q k =>
  we_of (pe_revL pe_we) (h H0 av0 σ H en _ fun v d H1 k1 o1 r1 p1 => by
    subst p1
    cases r1 with
    | lst h1 h2 h3 =>
      refine ⟨_, _, rfl, SqL.of h1, fun p hp => k _ _ _ _ ?_ (k1.trans (Kp.new hp)) (o1.new hp) upd_same (RpA.kp (Kp.new (k := m.dk) hp) o1.dkav ?_) rfl⟩
      · cases e : H p with
        | none => rfl
        | some o =>
          by_cases z : m.dk = some p
          · exact absurd hp (o1.dom p (o1.dkav p z))
          · rw [k1 p o e (fun q => absurd q z)] at hp
            cases hp
      · have gen : ∀ (ds : List PD) (vs : List V), RpA X.K m.av H1 vs ds → RpA X.K m.av H1 vs.reverse ds.reverse := by
          intro ds
          induction ds with
          | nil => intro vs r; cases r; exact .nil
          | cons d ds ih =>
            intro vs r
            cases r with
            | cons r1 r2 =>
              rw [List.reverse_cons, List.reverse_cons]
              exact (ih _ r2).append (.one r1)
        exact gen _ _ h3)
/-- for a, b, .. in a tuple of tuples -/
theorem s_forU (is : List Nat) {tg : List Expr} {k' : Nat} {iter : Expr} {ds : List PD} {n : Nat} (I : Nat → Mm → List Sl → Prop) (hc : X.calm = true) (hp : PassesOwn (model X.prog X.w) X.A X.env X.xe) (hg : PG X (.Tuple tg k' p2) (gTup X.K is.length (gNames is))) (hi : E X m iter ρ (· = .tuple ds)) (hfl : ∀ d ∈ ds, flatD n d) (h0 : I 0 m ρ)
    (hs : ∀ i d m' ρ', ds[i]? = some d → I i m' ρ' → ∃ ts : List PD, d = .tuple ts ∧ ts.length = is.length ∧ SS X body m' (setAll is ts ρ') { D with nx := I (i + 1), ct := I (i + 1), bk := D.nx }) (hd : ∀ m' ρ', I ds.length m' ρ' → D.nx m' ρ')
    (hfo : ∀ x, foldedSetIterable iter X.env x = pure x := by intro _; rfl) : S X (.For (.Tuple tg k' p2) iter body [] pos) m ρ D := fun H0 av0 σ H en EE k =>
  ws_of (ps_for hp hc (pi_tup pe_we) hg pss_ws hfo) (hi H0 av0 σ H en _ fun v d H1 k1 o1 r1 p1 => by
    subst p1
    cases r1 with
    | tup h1 h2 =>
      rename_i at_ xs
      refine ⟨_, rfl, ⟨_, h1⟩, for_tup (K := X.K) (xs := xs) (fun i σ' H' => Lp X H0 av0 H1 (I i) σ' H') ⟨m, ρ, h0, en.step k1 o1, Kt.refl _ _⟩ (fun i σ' H' _ z => ?_) (fun i y σ' H' hy z => ?_) (fun σ' H' z => ?_)⟩
      · obtain ⟨_, _, _, _, q⟩ := z
        exact q.1 _ _ h1
      · obtain ⟨m', ρ', q1, en', kt⟩ := z
        obtain ⟨d, hd', rd⟩ := h2.get hy
        have rd' := flat_kt (av' := m'.av) (hfl d (List.mem_of_getElem? hd')) kt rd
        obtain ⟨ts, rfl, hl, q2⟩ := hs i d m' ρ' hd' q1
        cases rd' with
        | tup h3 h4 =>
          exact ⟨_, _, rfl, h3, by rw [h4.length, hl], gNames_ok is ts _ σ' H' ρ' _ hl.symm h4 en' fun σ2 en2 => q2 H0 av0 σ2 H' en2 _ (((k.from k1.kt).loop (I (i + 1))).from' kt)⟩
      · obtain ⟨m', ρ', q1, en', kt⟩ := z
        rw [h2.length] at q1
        exact k.nx m' ρ' σ' H' (hd m' ρ' q1) en' (k1.kt.trans kt))
/-- a def that hands back data or raises the class at C -/
def spX (K : PySem.W.Frag) (C : Addr) (G : List PD → PD → Prop) (R : List PD → Prop) : Sp := fun vs H Q E => ∃ av ds, (∀ a, av a → H a ≠ none) ∧ RpA K av H vs ds ∧
  ((∃ d, G ds d ∧ ∀ v H', Same H H' → Rp K av H' v d → Q v H') ∨ (R ds ∧ ∀ H', Same H H' → E (.ref C) none H'))
/-- .. where it does not raise -/
theorem spX_D {K : PySem.W.Frag} {C : Addr} {G : List PD → PD → Prop} {R : List PD → Prop} {vs : List V} {H : Hp} {Q : VK} {E : XK} (h : spD K G vs H Q E) : spX K C G R vs H Q E := by
  obtain ⟨av, ds, d, h1, h2, h3, h4⟩ := h
  exact ⟨av, ds, h1, h2, .inl ⟨d, h3, h4⟩⟩
/-- raise C('..') -/
theorem s_raise {x z : Str} {C : Addr} {j : Nat} (gC : X.mg x = some (.ref C)) (xP : PySem.W.excIn X.K C He.veBase "ValueError.__new__" = true) (kC : PySem.W.keepIn X.K (.ref C) = true) (sC : PySem.W.subIn X.K (.ref C) (.type "BaseException") = some true) (tC : PySem.W.typeIn X.K (.ref C) = some (.type "type"))
    (h : D.ex C) (hdk : m.dk = none) (hc : X.calm = true := by rfl) (hg : Gl X x := by rfl) (hdb : (x == ("__debug__" : Str)) = false := by decide) : S X (.Raise (some (.Call (.Name x p) [.Constant (.str z) j p2] [] p3)) none pos) m ρ D := fun H0 av0 σ H en EE k => by
  have fr := en.fr
  rw [hdk] at fr
  obtain ⟨W, tk, hW⟩ := k.ex C h σ H fr.toSame
  exact ws_of (ps_raise hc tk (pmk_own PySem.F.excBase_ValueError xP gC kC (raises_own sC tC) hg hdb)) hW
/-- try: x = f(..) except C: return False -/
theorem s_try {C f : Addr} {fd : FuncData} {ps : List Str} {n j i : Nat} {x y cn : Str} {G : List PD → PD → Prop} {R : List PD → Prop} {ds : List PD} {px py pc pb pr pt ph pp : Pos} {jb : Nat} (F : FnOk X.prog X.w X.K X.mg X.base (L2.CX X.prog X.w) n f fd ps (spX X.K C G R)) (hr : Room j X.A) (hnj : n ≤ j) (hm : X.mg y = some (.ref f)) (hk : PySem.W.keepIn X.K (.ref f) = true) (hb : Binds X.K fd ps [])
    (gC : X.mg cn = some (.ref C)) (te : PySem.W.exmOne X.K (.ref C) (.ref C) = some true) (hN : X.N.Nodup) (hs : X.stack = X.env :: X.outer) (hf : X.env.frame = some X.env.locals) (hdk : m.mu = .no)
    (ha : ∀ pn xe, EA (X.tr pn xe) m (e :: es) ρ (· = ds)) (hG : (∃ d, G ds d ∧ D.nx m (ρ.set i (.im d))) ∨ (R ds ∧ D.rt m (.bool false)))
    (hnm : Names X cn (.ref C)) (hi : X.N[i]? = some x := by rfl) (hx : X.env.scope.names.lookup x = some .local := by rfl) (hg : Gl X y := by rfl) (hdb : (y == ("__debug__" : Str)) = false := by decide) (he : starEach (e :: es) X.env = (false, eval e X.env) :: starEach es X.env := by rfl) (hpl : (backTo pc (starEach es X.env)).any (·.1) = false := by rfl)
    (hsw : swapsWith (.Call (.Name y py) (e :: es) [] pc) (some (.Name x px)) pb.line X.env = pure false := by rfl) :
    S X (.Try [.Assign [.Name x px] (.Call (.Name y py) (e :: es) [] pc) pb] [.ExceptHandler (some (.Name cn ph)) none [.Return (some (.Constant (.bool false) jb pr)) pt] pp] [] [] pos) m ρ D := fun H0 av0 σ H en EE k => by
  refine ws_of (ps_try_only (c := .ref C) (tb := fun W => tAsg (tCallS (spX X.K C G R) (L2.WE W) fun σ H Q => ∀ pn xe, WA (X.tr pn xe) (e :: es) σ H Q) (gName i)) (ts := fun _ _ _ => tRet (tC (.bl false))) (Wout := fun _ _ _ _ => False) hs hf hnm takes0 (fun W pn xe tk _ => ?_) (fun a oe cls d pn hz hf => pss_one (ps_ret pe_bl))) ?_
  · refine pss_one (ps_set (X := X.tr pn xe) hN hi (.inl hx) (by exact (pe_callS (X := X.tr pn xe) F (hr.mono hnj) hg hm hk hb (fun σ => passAt tk σ) ⟨fun pos pins s σ H Q I h => (h pn xe).run pos pins s I⟩ hdb he hpl)) hsw (.inr hx))
  · refine fun pn xe => ha pn xe H0 av0 σ H ⟨en.fr, en.sub, en.dom0, en.ok, en.len, en.at_⟩ _ fun vs ds' H1 k1 o1 r1 l1 p1 => ?_
    subst p1
    have edk : m.dk = none := by
      obtain ⟨av, mu⟩ := m
      cases hdk
      rfl
    refine ⟨m.av, ds', o1.dom, r1, hG.imp (fun ⟨d, h1, h2⟩ => ⟨d, h1, fun v H' s r => ?_⟩) (fun ⟨h1, h2⟩ => ⟨h1, fun H' s => ?_⟩)⟩
    · exact k.nx m _ _ H' h2 (((en.step k1 o1).step (Kp.same s) (MuOk.keep o1 s)).set r) (k1.trans (Kp.same s)).kt
    · refine ⟨true, te, fun _ a _ => ?_, fun q => Bool.noConfusion q⟩
      exact k.rt m _ _ H' h2 (en.fr.trans (k1.trans (Kp.same s))) (MuOk.keep o1 s) en.sub (.bl false)
end
section
variable {P : Program} {w : World} {K : PySem.W.Frag} {mg : Str → Option Value} {base : Heap}
theorem fn_weak {CX : CXT} {k : Nat} {f : Addr} {fd : FuncData} {ps : List Str} {sp sp' : Sp} (F : FnOk P w K mg base CX k f fd ps sp) (h : ∀ vs H Q E, sp' vs H Q E → sp vs H Q E) : FnOk P w K mg base CX k f fd ps sp' :=
  ⟨fun vs H Q E q => F.len vs H Q E (h vs H Q E q), fun A outer s H args us vs Q E hr hl hb r q => F.run A outer s H args us vs Q E hr hl hb r (h vs H Q E q)⟩
theorem fn_okX {x qual : Str} {params : Arguments} {body : List Stmt} {scope : Scope} {dvs : List V} {kws : List (Str × V)} {f : Addr} {fd : FuncData} {N ps : List Str} {k : Nat} {C : Addr} {G : List PD → PD → Prop} {R : List PD → Prop} (F : FunD K x qual params body scope dvs kws f fd) (S : FnScope N ps scope)
    (hl : ∀ ds, ((∃ d, G ds d) ∨ R ds) → ds.length = ps.length)
    (h : ∀ (cdv : Value) (A : Around) (outer : List Env) (s : Shared) (H : Hp) (E : XK) (av : Addr → Prop) (ds : List PD), Room k (A.deeper (envOfC qual scope s.heap.objs.size f cdv)) →
      (∀ d, G ds d → SS (cxOf (L2.CX P w) P w K mg base N qual scope f cdv A outer s H E) body ⟨av, .no⟩ (startP N ds) (retD d)) ∧
      (R ds → SS (cxOf (L2.CX P w) P w K mg base N qual scope f cdv A outer s H E) body ⟨av, .no⟩ (startP N ds) { nx := fun _ _ => False, rt := fun _ _ => False, ex := (· = C) })) :
    FnOk P w K mg base (L2.CX P w) (k + 1) f fd ps (spX K C G R) := by
  refine F.ok S (fun vs H Q E hs => ?_) (fun cdv A outer s H vs Q E hr hs => ?_)
  · obtain ⟨av, ds, _, r, hG⟩ := hs
    rw [r.length]
    exact hl ds (hG.imp (fun ⟨d, h, _⟩ => ⟨d, h⟩) (fun h => h.1))
  · obtain ⟨av, ds, hd, r, hG⟩ := hs
    refine ⟨WSs (cxOf (L2.CX P w) P w K mg base N qual scope f cdv A outer s H E) body, pss_ws, ?_⟩
    obtain ⟨h1, h2⟩ := h cdv A outer s H E av ds hr
    rcases hG with ⟨d, hG, hQ⟩ | ⟨hR, hE⟩
    · refine h1 d hG H av _ H (start_env hd r) _ ⟨fun m ρ σ H' e en _ => ?_, fun _ _ _ _ z => z.elim, fun _ _ _ _ z => z.elim, fun m v d' H' e k1 o1 sub r1 => ?_, fun _ z => z.elim⟩
      · obtain ⟨ek, e'⟩ : m.dk = none ∧ d = .none := e
        subst e'
        have fr := en.fr
        rw [ek] at fr
        exact hQ .non H' fr.toSame .non
      · obtain ⟨ek, e'⟩ : m.dk = none ∧ d' = d := e
        subst e'
        rw [ek] at k1
        exact hQ v H' k1.toSame (r1.anti fun a z _ => sub a z)
    · exact h2 hR H av _ H (start_env hd r) _ ⟨fun _ _ _ _ z => z.elim, fun _ _ _ _ z => z.elim, fun _ _ _ _ z => z.elim, fun _ _ _ _ z => z.elim, fun C' e σ' H' s' => by
        subst e
        exact ⟨fun cls d _ H => E cls d H, takes_of rfl rfl rfl rfl, hE H' s'⟩⟩
end
end Tk
end
section
namespace Tk
open PySem PySem.Spec PyProof.Rows L2
abbrev dTurn (t : Tn) : PD := .tuple [.tuple [dI t.at_], dI t.many, .str "mapped", dRow t.new]
abbrev dPap (p : List Tn) : PD := .tuple (p.map dTurn)
theorem cut_ds {ds : List PD} {n : Nat} (h : n ≤ ds.length) : cutP ds none (some (n : Int)) = ds.take n ∧ cutP ds (some (n : Int)) none = ds.drop n := by
  have h1 := cut_to (g := id) h
  have h2 := cut_from (g := id) h
  rw [List.map_id, List.map_id] at h1 h2
  exact ⟨h1, h2⟩
theorem okR_cons {w : Wd} {r : List Wd} (h : w.ok) (q : okR r) : okR (w :: r) := fun x hx => (List.mem_cons.mp hx).elim (fun z => z ▸ h) (q x)
theorem good_dRow (n : Nat) {r : List Wd} (h : okR r) : good (n + 1) (dRow r) := fun d hd => by
  obtain ⟨x, hx, rfl⟩ := List.mem_map.mp hd
  cases n <;> exact wtx_ok _ (h x hx)
def G_parted (ds : List PD) (d : PD) : Prop := ∃ (st : List PD) (n : Nat), n ≤ st.length ∧ ds = [.tuple st, dI n] ∧ d = .tuple [.tuple (st.take (st.length - n)), .tuple (st.drop (st.length - n))]
def G_step (ds : List PD) (d : PD) : Prop := ∃ (st : List PD) (w : Wd) (r : List Wd) (bk : PD), w.ok ∧ okL r ∧ w.n ≤ st.length ∧ st.length ≤ 100000 ∧ ds = [.tuple [.tuple st, dRow (w :: r)], bk] ∧ d = .tuple [.tuple (stepS st w .none), dRow r]
def G_mapped (ds : List PD) (d : PD) : Prop := ∃ r t bk, okL r ∧ okL t ∧ ds = [dRow r, dRow t, bk] ∧ d = .bool (decide (mapOf r = mapOf t))
def G_leads (ds : List PD) (d : PD) : Prop := ∃ r t bk, okL r ∧ okL t ∧ ds = [.str "mapped", dRow r, dRow t, bk] ∧ d = .bool (decide (mapOf r = mapOf t))
section
variable {P : Program} {wd : World} {K : PySem.W.Frag} {mg : Str → Option Value} {base : Heap}
theorem ok_parted_stack {f : Addr} {fd : FuncData} (B : Bt mg) (F : FnP K "parted_stack" sparted_stack [] f fd) : FnOk P wd K mg base CX0 1 f fd pparted_stack (spD K G_parted) := by
  refine fn_okD F cparted_stack (fun ds d h => ?_) (fun cdv A outer s H E av ds d hr hG => ?_)
  · obtain ⟨_, _, _, rfl, _⟩ := h
    rfl
  · obtain ⟨st, n, hn, rfl, rfl⟩ := hG
    have hnd := cparted_stack.nd
    refine ss_cons (s_if (c := false) ((t_lt (e_len (n := st.length) B.len (e_var 0) rfl) (e_var 1)).is (by simp; omega)) nf fun _ => ss_nil ?_)
    refine ss_cons (s_set 2 hnd ((e_sub (e_len (n := st.length) B.len (e_var 0) rfl) (e_var 1)).is (d' := dI (st.length - n)) (by show PyData.int _ = PyData.int _; congr 1; omega)) ?_)
    refine ss_one (s_ret (e_tup (ea_c (e_slT (e_var 0) o_none (o_some (e_var 2))) (ea_c (e_slT (e_var 0) (o_some (e_var 2)) o_none) ea_nil))) ⟨rfl, ?_⟩)
    obtain ⟨h1, h2⟩ := cut_ds (ds := st) (n := st.length - n) (by omega)
    rw [h1, h2]
theorem ok_step {f : Addr} {fd : FuncData} (B : Bt mg) (IS : CalD P wd K mg base CX0 1 "is_shuffle" pis_shuffle [] (spD K G_is_shuffle)) (TL : CalD P wd K mg base CX0 1 "taken_left" ptaken_left [] (spD K G_taken_left)) (PS : CalD P wd K mg base CX0 1 "parted_stack" pparted_stack [] (spD K G_parted)) (F : FnP K "step" sstep [.non] f fd) : FnOk P wd K mg base CX0 2 f fd pstep (spD K G_step) := by
  refine fn_okD F cstep (fun ds d h => ?_) (fun cdv A outer s H E av ds d hr hG => ?_)
  · obtain ⟨_, _, _, _, _, _, _, _, rfl, _⟩ := h
    rfl
  · obtain ⟨st, w, r, bk, hw, hro, hn, hl, rfl, rfl⟩ := hG
    have hnd := cstep.nd
    have hw' := hw
    obtain ⟨h1, h2, h3⟩ := hw
    refine ss_cons (s_unp [2, 3] (pg_tup rfl (pgs_cons (pg_name hnd rfl (by first | exact Or.inl rfl | exact Or.inr rfl)) (pgs_cons (pg_name hnd rfl (by first | exact Or.inl rfl | exact Or.inr rfl)) pgs_nil))) (e_var 0) rfl ?_)
    refine ss_cons (s_if (c := false) ((t_eq (n := 1) (c := false) hr (e_var 3) (e_tup ea_nil) (by simp) (good_dRow 0 (okR_cons hw' hro.1)) (good_nil 0))) nf fun _ => ss_nil ?_)
    refine ss_cons (s_set 4 hnd (e_ix (e_var 3) e_int (d := dW w) (atI_nat (j := 0) rfl)) ?_)
    refine ss_cons (s_set 5 hnd ((e_slT (e_var 3) (o_some e_int) o_none).is (d' := dRow r) (congrArg PyData.tuple (cut_from (xs := w :: r) (n := 1) (by simp)))) ?_)
    refine ss_cons (s_if (c := false) (t_e (e_isi (x := dW w) (c := false) (T := "tuple") B.isi B.tuple (e_var 4) (by decide +kernel) (show kitB "str" "tuple" = some false by decide +kernel))) nf fun _ => ss_nil ?_)
    refine ss_cons (s_if (c := true) (t_e (c_call E0 IS hr (by decide) pass0 (ea_c (e_var 4) ea_nil) ⟨w, hw', rfl, rfl⟩)) (fun _ => ?_) tf)
    refine ss_cons (s_unp [6, 7] (pg_tup rfl (pgs_cons (pg_name hnd rfl (by first | exact Or.inl rfl | exact Or.inr rfl)) (pgs_cons (pg_name hnd rfl (by first | exact Or.inl rfl | exact Or.inr rfl)) pgs_nil))) (c_call E0 TL hr (by decide) pass0 (ea_c (e_var 4) ea_nil) ⟨w, hw', rfl, rfl⟩) rfl ?_)
    refine ss_cons (s_unp [8, 9] (pg_tup rfl (pgs_cons (pg_name hnd rfl (by first | exact Or.inl rfl | exact Or.inr rfl)) (pgs_cons (pg_name hnd rfl (by first | exact Or.inl rfl | exact Or.inr rfl)) pgs_nil))) (c_call E0 PS hr (by decide) pass0 (ea_c (e_var 2) (ea_c (e_var 6) ea_nil)) ⟨st, w.n, hn, rfl, rfl⟩) rfl ?_)
    refine ss_one (s_ret (e_tup (ea_c (e_cat (e_var 8) (e_tuple B.tuple (EL.im (el_mapT (f := fun k => st.getD (st.length - w.n + k) .none) 10 hnd (e_var 7) (by omega) (fun k hk s H C cl fp av => ?_)))) (by rw [List.length_take, List.length_map]; omega)) (ea_c (e_var 5) ea_nil))) ⟨rfl, rfl⟩)
    have hk' := h3 k hk
    refine e_ix (e_var 9) (e_var 10) (atI_nat ?_)
    rw [List.getElem?_drop, List.getD_eq_getElem?_getD, List.getElem?_eq_getElem (by omega)]
    rfl
theorem ok_is_mapped {f : Addr} {fd : FuncData} (AR : CalD P wd K mg base CX0 2 "are_shuffles_rules" pare_shuffles_rules [] (spD K (G_row fun _ => .bool true))) (MO : CalD P wd K mg base CX0 4 "map_of" pmap_of [] (spD K (G_row fun r => dMp (mapOf r)))) (F : FnP K "is_mapped" sis_mapped [] f fd) : FnOk P wd K mg base CX0 5 f fd pis_mapped (spD K G_mapped) := by
  refine fn_okD F cis_mapped (fun ds d h => ?_) (fun cdv A outer s H E av ds d hr hG => ?_)
  · obtain ⟨_, _, _, _, _, rfl, _⟩ := h
    rfl
  · obtain ⟨r, t, bk, hro, hto, rfl, rfl⟩ := hG
    refine ss_one (s_ret (e_and (c := true) (d := decide (mapOf r = mapOf t)) (c_call E0 AR hr (by decide) pass0 (ea_c (e_var 0) ea_nil) ⟨r, hro, rfl, rfl⟩) (fun _ => e_and (c := true) (d := decide (mapOf r = mapOf t)) (c_call E0 AR hr (by decide) pass0 (ea_c (e_var 1) ea_nil) ⟨t, hto, rfl, rfl⟩)
      (fun _ => e_one (e_eq hr (c_call E0 MO hr (by decide) pass0 (ea_c (e_var 0) ea_nil) ⟨r, hro, rfl, rfl⟩) (c_call E0 MO hr (by decide) pass0 (ea_c (e_var 1) ea_nil) ⟨t, hto, rfl, rfl⟩) (by rw [dMp_inj, decide_eq_true_iff]) (good_dMp _) (good_dMp _))))) ⟨rfl, rfl⟩)
theorem ok_leads {f : Addr} {fd : FuncData} (IM : CalD P wd K mg base CX0 5 "is_mapped" pis_mapped [] (spD K G_mapped)) (F : FnP K "leads" sleads [] f fd) : FnOk P wd K mg base CX0 6 f fd pleads (spD K G_leads) := by
  refine fn_okD F cleads (fun ds d h => ?_) (fun cdv A outer s H E av ds d hr hG => ?_)
  · obtain ⟨_, _, _, _, _, rfl, _⟩ := h
    rfl
  · obtain ⟨r, t, bk, hro, hto, rfl, rfl⟩ := hG
    exact ss_cons (s_if (c := true) ((t_eqS (e_var 0) e_str).is (by simp)) (fun _ => ss_one (s_ret (c_call E0 IM hr (by decide) pass0 (ea_c (e_var 1) (ea_c (e_var 2) (ea_c (e_var 3) ea_nil))) ⟨r, t, bk, hro, hto, rfl, rfl⟩) ⟨rfl, rfl⟩)) tf)
theorem ok_turns_to {f : Addr} {fd : FuncData} (SD : CalD P wd K mg base CX0 1 "said" psaid [] (spD K fun ds d => ∃ x, ds = [x] ∧ d = saidD x)) (LE : CalD P wd K mg base CX0 6 "leads" pleads [] (spD K G_leads)) (F : FnP K "turns_to" sturns_to [.non] f fd) : FnOk P wd K mg base CX0 7 f fd pturns_to (spD K G_leads) := by
  refine fn_okD F cturns_to (fun ds d h => ?_) (fun cdv A outer s H E av ds d hr hG => ?_)
  · obtain ⟨_, _, _, _, _, rfl, _⟩ := h
    rfl
  · obtain ⟨r, t, bk, hro, hto, rfl, rfl⟩ := hG
    have hnd := cturns_to.nd
    refine ss_cons (s_set 4 hnd (c_call E0 SD hr (by decide) pass0 (ea_c (e_var 3) ea_nil) ⟨bk, rfl, rfl⟩) ?_)
    refine ss_one (s_ret (e_or (c_call E0 LE hr (by decide) pass0 (ea_c (e_var 0) (ea_c (e_var 1) (ea_c (e_var 2) (ea_c (e_var 4) ea_nil)))) ⟨r, t, saidD bk, hro, hto, rfl, rfl⟩) (fun _ => e_one (c_call E0 LE hr (by decide) pass0 (ea_c (e_var 0) (ea_c (e_var 2) (ea_c (e_var 1) (ea_c (e_var 4) ea_nil)))) ⟨t, r, saidD bk, hto, hro, rfl, rfl⟩))) ⟨rfl, ?_⟩)
    congr 1
    by_cases h : mapOf r = mapOf t
    · simp [h]
    · have h' : ¬ mapOf t = mapOf r := fun z => h z.symm
      simp [h, h']
theorem ok_is_count {f : Addr} {fd : FuncData} (B : Bt mg) (F : FnP K "is_count" sis_count [] f fd) : FnOk P wd K mg base CX0 1 f fd pis_count (spD K fun ds d => ∃ n : Nat, ds = [dI n] ∧ d = .bool true) := by
  refine fn_okD F cis_count (fun ds d h => ?_) (fun cdv A outer s H E av ds d hr hG => ?_)
  · obtain ⟨_, rfl, _⟩ := h
    rfl
  · obtain ⟨n, rfl, rfl⟩ := hG
    exact ss_one (s_ret (e_and (c := true) (d := true) (e_isi (x := dI n) (c := true) (T := "int") B.isi B.int (e_var 0) (by decide +kernel) kit_int) (fun _ => e_and (c := true) (d := true) ((e_not (e_isi (x := dI n) (c := false) (T := "bool") B.isi B.bool (e_var 0) (by decide +kernel) kit_intb)).is rfl) (fun _ => e_one ((e_ge (e_var 0) e_int).is (by simp))))) ⟨rfl, rfl⟩)
theorem ok_is_turn {f : Addr} {fd : FuncData} (B : Bt mg) (IC : CalD P wd K mg base CX0 1 "is_count" pis_count [] (spD K fun ds d => ∃ n : Nat, ds = [dI n] ∧ d = .bool true)) (IR : CalD P wd K mg base CX0 3 "is_row" pis_row [] (spD K (G_row fun _ => .bool true))) (F : FnP K "is_turn" sis_turn [] f fd) : FnOk P wd K mg base CX0 4 f fd pis_turn (spD K fun ds d => ∃ t : Tn, okL t.new ∧ ds = [dTurn t] ∧ d = .bool true) := by
  refine fn_okD F cis_turn (fun ds d h => ?_) (fun cdv A outer s H E av ds d hr hG => ?_)
  · obtain ⟨_, _, rfl, _⟩ := h
    rfl
  · obtain ⟨t, ht, rfl, rfl⟩ := hG
    have hnd := cis_turn.nd
    refine ss_cons (s_if (c := false) (t_w (w_or (c := false) (d := false) ((t_not (t_e (e_isi (x := dTurn t) (c := true) (T := "tuple") B.isi B.tuple (e_var 0) (by decide +kernel) kit_tup))).is rfl) (fun _ => w_or1 ((t_neI (e_len (n := 4) B.len (e_var 0) rfl) e_int).is (by simp))))) nf fun _ => ss_nil ?_)
    refine ss_cons (s_unp [1, 2, 3, 4] (pg_tup rfl (pgs_cons (pg_name hnd rfl (by first | exact Or.inl rfl | exact Or.inr rfl)) (pgs_cons (pg_name hnd rfl (by first | exact Or.inl rfl | exact Or.inr rfl)) (pgs_cons (pg_name hnd rfl (by first | exact Or.inl rfl | exact Or.inr rfl)) (pgs_cons (pg_name hnd rfl (by first | exact Or.inl rfl | exact Or.inr rfl)) pgs_nil))))) (e_var 0) rfl ?_)
    refine ss_cons (s_if (c := false) (t_w (w_or (c := false) (d := false) ((t_not (t_e (e_isi (x := .tuple [dI t.at_]) (c := true) (T := "tuple") B.isi B.tuple (e_var 1) (by decide +kernel) kit_tup))).is rfl) (fun _ => w_or (c := false) (d := false) (t_eq (n := 1) (c := false) hr (e_var 1) (e_tup ea_nil) (by simp) (good_dIs 0 [t.at_]) (good_nil 0)) (fun _ => w_or1 ((t_not (t_e ((e_all (bs := [true]) rfl B.all (EL.im (el_mapT (xs := [t.at_]) (g := dI) (f := fun _ => .bool true) 5 hnd (e_var 1) (by simp) (fun n hn s H C cl fp av => c_call E0 IC hr (by decide) pass0 (ea_c (e_var 5) ea_nil) ⟨n, rfl, rfl⟩)))).is rfl))).is rfl))))) nf fun _ => ss_nil ?_)
    exact ss_one (s_ret (e_and (c := true) (d := true) (c_call E0 IC hr (by decide) pass0 (ea_c (e_var 2) ea_nil) ⟨t.many, rfl, rfl⟩) (fun _ => e_and (c := true) (d := true) (e_isi (x := .str "mapped") (c := true) (T := "str") B.isi B.str (e_var 3) (by decide +kernel) kit_str) (fun _ => e_one (c_call E0 IR hr (by decide) pass0 (ea_c (e_var 4) ea_nil) ⟨t.new, ht, rfl, rfl⟩)))) ⟨rfl, rfl⟩)
end
end Tk
end
section
namespace Tk
open PySem PySem.Spec PyProof.Rows L2
def G_entered (ds : List PD) (d : PD) : Prop := ∃ r n, okL r ∧ ds = [dRow r, .tuple [dI n]] ∧ d = dRow r
def G_stretch (ds : List PD) (d : PD) : Prop := ∃ r t, okL r ∧ t.at_ + t.many ≤ r.length ∧ ds = [dRow r, .tuple [dI t.at_], dI t.many] ∧ d = dRow (stretch r t)
def G_put (ds : List PD) (d : PD) : Prop := ∃ r t, okL r ∧ t.inR r ∧ ds = [dRow r, .tuple [dI t.at_], dI t.many, dRow t.new] ∧ d = dRow (turnR r t)
def G_turned (ds : List PD) (d : PD) : Prop := ∃ r t bk, okL r ∧ t.inR r ∧ mapOf (stretch r t) = mapOf t.new ∧ ds = [dRow r, dTurn t, bk] ∧ d = dRow (turnR r t)
def R_turned (ds : List PD) : Prop := ∃ r t bk, okL r ∧ t.inR r ∧ mapOf (stretch r t) ≠ mapOf t.new ∧ ds = [dRow r, dTurn t, bk]
def G_holds (ds : List PD) (d : PD) : Prop := ∃ one other p bk, okL other ∧ InR one p ∧ ds = [dRow one, dRow other, dPap p, bk] ∧ d = .bool (decide (goP one p = some other))
def G_back (ds : List PD) (d : PD) : Prop := ∃ r p bk, InR r p ∧ (goP r p).isSome = true ∧ p.length ≤ 1000 ∧ ds = [dRow r, dPap p, bk] ∧ d = dPap (backP r p)
theorem dRow_inj {r t : List Wd} : dRow r = dRow t ↔ r = t := by
  constructor
  · intro h
    injection h with h
    exact (List.map_inj_right (fun x y e => by injection e with e; exact wtx_inj e)).mp h
  · intro h
    rw [h]
theorem flat_dTurn (p : List Tn) : ∀ d ∈ p.map dTurn, flatD 2 d := by
  intro d hd
  obtain ⟨t, _, rfl⟩ := List.mem_map.mp hd
  intro x hx
  rcases List.mem_cons.mp hx with rfl | hx
  · intro y hy
    rcases List.mem_cons.mp hy with rfl | hy
    · trivial
    · cases hy
  · rcases List.mem_cons.mp hx with rfl | hx
    · trivial
    · rcases List.mem_cons.mp hx with rfl | hx
      · trivial
      · rcases List.mem_cons.mp hx with rfl | hx
        · intro y hy
          obtain ⟨w, _, rfl⟩ := List.mem_map.mp hy
          trivial
        · cases hx
theorem pap_get {p : List Tn} {i : Nat} {d : PD} (h : (p.map dTurn)[i]? = some d) : ∃ t, p[i]? = some t ∧ d = dTurn t := by
  rw [List.getElem?_map] at h
  cases e : p[i]? with
  | none => rw [e] at h; cases h
  | some w => rw [e] at h; cases h; exact ⟨w, rfl, rfl⟩
/-- following a paper, the part behind so many turns -/
theorem goP_drop {p : List Tn} {i : Nat} {t : Tn} (h : p[i]? = some t) : p.drop i = t :: p.drop (i + 1) := by
  obtain ⟨hi, e⟩ := List.getElem?_eq_some_iff.mp h
  rw [List.drop_eq_getElem_cons hi, e]
/-- what the raise asks of the class -/
structure Xc (K : PySem.W.Frag) (mg : Str → Option Value) (C : Addr) : Prop where
  gC : mg "NoTurn" = some (.ref C)
  xP : PySem.W.excIn K C He.veBase "ValueError.__new__" = true
  kC : PySem.W.keepIn K (.ref C) = true
  sC : PySem.W.subIn K (.ref C) (.type "BaseException") = some true
  tC : PySem.W.typeIn K (.ref C) = some (.type "type")
  te : PySem.W.exmOne K (.ref C) (.ref C) = some true
section
variable {P : Program} {wd : World} {K : PySem.W.Frag} {mg : Str → Option Value} {base : Heap}
theorem ok_entered {f : Addr} {fd : FuncData} (F : FnP K "entered" sentered [] f fd) : FnOk P wd K mg base CX0 1 f fd pentered (spD K G_entered) := by
  refine fn_okD F centered (fun ds d h => ?_) (fun cdv A outer s H E av ds d hr hG => ?_)
  · obtain ⟨_, _, _, rfl, _⟩ := h
    rfl
  · obtain ⟨r, n, hro, rfl, rfl⟩ := hG
    have hnd := centered.nd
    refine ss_cons (s_forT (n := 0) (ds := []) 2 (fun i m' ρ' => m' = ⟨av, .no⟩ ∧ ρ' = [.im (dRow r), .im (.tuple [dI n]), .no]) rfl hnd PassesOwn.never ((e_slT (e_var 1) o_none (o_some (e_neg e_int))).is (by rfl)) (fun d hd => nomatch hd) ⟨rfl, rfl⟩ (fun i d m' ρ' hd => by simp at hd) ?_)
    rintro m' ρ' ⟨rfl, rfl⟩
    exact ss_one (s_ret (e_var 0) ⟨rfl, rfl⟩)
theorem ok_stretch_at {f : Addr} {fd : FuncData} (B : Bt mg) (EN : CalD P wd K mg base CX0 1 "entered" pentered [] (spD K G_entered)) (F : FnP K "stretch_at" sstretch_at [] f fd) : FnOk P wd K mg base CX0 2 f fd pstretch_at (spD K G_stretch) := by
  refine fn_okD F cstretch_at (fun ds d h => ?_) (fun cdv A outer s H E av ds d hr hG => ?_)
  · obtain ⟨_, _, _, _, rfl, _⟩ := h
    rfl
  · obtain ⟨r, t, hro, hin, rfl, rfl⟩ := hG
    have hnd := cstretch_at.nd
    refine ss_cons (s_set 3 hnd (c_call E0 EN hr (by decide) pass0 (ea_c (e_var 0) (ea_c (e_var 1) ea_nil)) ⟨r, t.at_, hro, rfl, rfl⟩) ?_)
    refine ss_cons (s_if (c := false) ((t_gt (e_add (e_ix (e_var 1) (e_neg e_int) (d := dI t.at_) rfl) (e_var 2)) (e_len (n := r.length) B.len (e_var 3) (by show some (r.map dW).length = _; rw [List.length_map]))).is (by simp; omega)) nf fun _ => ss_nil ?_)
    refine ss_one (s_ret (e_slT (e_var 3) (o_some (e_ix (e_var 1) (e_neg e_int) (d := dI t.at_) rfl)) (o_some (e_add (e_ix (e_var 1) (e_neg e_int) (d := dI t.at_) rfl) (e_var 2)))) ⟨rfl, ?_⟩)
    rw [show ((t.at_ : Int) + (t.many : Int)) = ((t.at_ + t.many : Nat) : Int) by omega, cut_in (by omega) hin, Nat.add_sub_cancel_left]
    rfl
theorem ok_put_at {f : Addr} {fd : FuncData} (B : Bt mg) (F : FnP K "put_at" sput_at [] f fd) : FnOk P wd K mg base CX0 1 f fd pput_at (spD K G_put) := by
  refine fn_okD F cput_at (fun ds d h => ?_) (fun cdv A outer s H E av ds d hr hG => ?_)
  · obtain ⟨_, _, _, _, rfl, _⟩ := h
    rfl
  · obtain ⟨r, t, hro, ⟨hin, hn⟩, rfl, rfl⟩ := hG
    have hnd := cput_at.nd
    have l1 := hro.2
    have l2 := hn.2
    refine ss_cons (s_set 4 hnd (e_ix (e_var 1) e_int (d := dI t.at_) (atI_nat (j := 0) rfl)) ?_)
    refine ss_cons (s_if (c := true) ((t_eqI (e_len (n := 1) B.len (e_var 1) rfl) e_int).is (by simp)) (fun _ => ?_) tf)
    refine ss_one (s_ret (e_cat (e_cat ((e_slT (e_var 0) o_none (o_some (e_var 4))).is (congrArg PyData.tuple (cut_to (by omega)))) (e_var 3) (by rw [List.length_map, List.length_map, List.length_take]; omega)) ((e_slT (e_var 0) (o_some ((e_add (e_var 4) (e_var 2)).is (d' := dI (t.at_ + t.many)) (by congr 1))) o_none).is (congrArg PyData.tuple (cut_from hin))) (by rw [List.length_append, List.length_map, List.length_map, List.length_map, List.length_take, List.length_drop]; omega)) ⟨rfl, ?_⟩)
    unfold turnR dRow
    rw [List.map_append, List.map_append]
theorem ok_turned {f C : Addr} {fd : FuncData} (Y : Xc K mg C) (IT : CalD P wd K mg base CX0 4 "is_turn" pis_turn [] (spD K fun ds d => ∃ t : Tn, okL t.new ∧ ds = [dTurn t] ∧ d = .bool true)) (TT : CalD P wd K mg base CX0 7 "turns_to" pturns_to [] (spD K G_leads)) (SA : CalD P wd K mg base CX0 2 "stretch_at" pstretch_at [] (spD K G_stretch)) (PA : CalD P wd K mg base CX0 1 "put_at" pput_at [] (spD K G_put))
    (F : FnP K "turned" sturned [.non] f fd) : FnOk P wd K mg base (L2.CX P wd) 8 f fd pturned (spX K C G_turned R_turned) := by
  refine fn_okX F cturned (fun ds h => ?_) (fun cdv A outer s H E av ds hr => ⟨fun d hG => ?_, fun hR => ?_⟩)
  · rcases h with ⟨d, _, _, _, _, _, _, rfl, _⟩ | ⟨_, _, _, _, _, _, rfl⟩ <;> rfl
  · obtain ⟨r, t, bk, hro, hin, hmp, rfl, rfl⟩ := hG
    have hnd := cturned.nd
    refine ss_cons (s_if (c := false) ((t_not (t_e (c_call E0 IT hr (by decide) pass0 (ea_c (e_var 1) ea_nil) ⟨t, hin.2, rfl, rfl⟩))).is rfl) nf fun _ => ss_nil ?_)
    refine ss_cons (s_unp [3, 4, 5, 6] (pg_tup rfl (pgs_cons (pg_name hnd rfl (by first | exact Or.inl rfl | exact Or.inr rfl)) (pgs_cons (pg_name hnd rfl (by first | exact Or.inl rfl | exact Or.inr rfl)) (pgs_cons (pg_name hnd rfl (by first | exact Or.inl rfl | exact Or.inr rfl)) (pgs_cons (pg_name hnd rfl (by first | exact Or.inl rfl | exact Or.inr rfl)) pgs_nil))))) (e_var 1) rfl ?_)
    refine ss_cons (s_if (c := !decide (mapOf (stretch r t) = mapOf t.new)) (t_not (t_e (c_call E0 TT hr (by decide) pass0 (ea_c (e_var 5) (ea_c (c_call E0 SA hr (by decide) pass0 (ea_c (e_var 0) (ea_c (e_var 3) (ea_c (e_var 4) ea_nil))) ⟨r, t, hro, hin.1, rfl, rfl⟩) (ea_c (e_var 6) (ea_c (e_var 2) ea_nil)))) ⟨stretch r t, t.new, bk, stretch_ok hro t, hin.2, rfl, rfl⟩))) (fun z => by rw [decide_eq_true hmp] at z; cases z) fun _ => ss_nil ?_)
    exact ss_one (s_ret (c_call E0 PA hr (by decide) pass0 (ea_c (e_var 0) (ea_c (e_var 3) (ea_c (e_var 4) (ea_c (e_var 6) ea_nil)))) ⟨r, t, hro, hin, rfl, rfl⟩) ⟨rfl, rfl⟩)
  · obtain ⟨r, t, bk, hro, hin, hmp, rfl⟩ := hR
    have hnd := cturned.nd
    refine ss_cons (s_if (c := false) ((t_not (t_e (c_call E0 IT hr (by decide) pass0 (ea_c (e_var 1) ea_nil) ⟨t, hin.2, rfl, rfl⟩))).is rfl) nf fun _ => ss_nil ?_)
    refine ss_cons (s_unp [3, 4, 5, 6] (pg_tup rfl (pgs_cons (pg_name hnd rfl (by first | exact Or.inl rfl | exact Or.inr rfl)) (pgs_cons (pg_name hnd rfl (by first | exact Or.inl rfl | exact Or.inr rfl)) (pgs_cons (pg_name hnd rfl (by first | exact Or.inl rfl | exact Or.inr rfl)) (pgs_cons (pg_name hnd rfl (by first | exact Or.inl rfl | exact Or.inr rfl)) pgs_nil))))) (e_var 1) rfl ?_)
    refine ss_cons (s_if (c := !decide (mapOf (stretch r t) = mapOf t.new)) (t_not (t_e (c_call E0 TT hr (by decide) pass0 (ea_c (e_var 5) (ea_c (c_call E0 SA hr (by decide) pass0 (ea_c (e_var 0) (ea_c (e_var 3) (ea_c (e_var 4) ea_nil))) ⟨r, t, hro, hin.1, rfl, rfl⟩) (ea_c (e_var 6) (ea_c (e_var 2) ea_nil)))) ⟨stretch r t, t.new, bk, stretch_ok hro t, hin.2, rfl, rfl⟩))) (fun _ => ss_one (s_raise Y.gC Y.xP Y.kC Y.sC Y.tC rfl rfl)) fun z => by rw [decide_eq_false hmp] at z; cases z)
end
end Tk
end
section
namespace Tk
open PySem PySem.Spec PyProof.Rows L2
section
variable {P : Program} {wd : World} {K : PySem.W.Frag} {mg : Str → Option Value} {base : Heap}
theorem ok_paper_holds {f C : Addr} {fd : FuncData} (B : Bt mg) (Y : Xc K mg C) (TU : CalD P wd K mg base (L2.CX P wd) 8 "turned" pturned [] (spX K C G_turned R_turned)) (F : FnP K "paper_holds" spaper_holds [.non] f fd) : FnOk P wd K mg base CX0 9 f fd ppaper_holds (spD K G_holds) := by
  refine fn_okD F cpaper_holds (fun ds d h => ?_) (fun cdv A outer s H E av ds d hr hG => ?_)
  · obtain ⟨_, _, _, _, _, _, rfl, _⟩ := h
    rfl
  · obtain ⟨one, other, p, bk, hoo, hin, rfl, rfl⟩ := hG
    have hnd := cpaper_holds.nd
    obtain ⟨f, fd, us, FT, hm, hk, hb, hu⟩ := TU.ex
    cases hu
    refine ss_cons (s_if (c := false) ((t_not (t_e (e_isi (x := dPap p) (c := true) (T := "tuple") B.isi B.tuple (e_var 2) (by decide +kernel) kit_tup))).is rfl) nf fun _ => ss_nil ?_)
    refine ss_cons (s_set 4 hnd (e_var 0) ?_)
    refine ss_cons (s_forT 5 (fun i m' ρ' => ∃ r s5, m' = ⟨av, .no⟩ ∧ ρ' = [.im (dRow one), .im (dRow other), .im (dPap p), .im bk, .im (dRow r), s5] ∧ goP one p = goP r (p.drop i) ∧ InR r (p.drop i)) rfl hnd PassesOwn.never (e_var 2) (flat_dTurn p) ⟨one, .no, rfl, rfl, rfl, hin⟩ ?_ ?_)
    · rintro i d m' ρ' hd ⟨r, s5, rfl, rfl, hgo, hir⟩
      obtain ⟨t, ht, rfl⟩ := pap_get hd
      rw [goP_drop ht] at hgo hir
      obtain ⟨hro, hti, hnx⟩ := hir
      refine ss_one (s_try (i := 4) (G := G_turned) (R := R_turned) FT hr (by decide) hm hk hb Y.gC Y.te hnd rfl rfl rfl (fun pn xe => ea_c (e_var 4) (ea_c (e_var 5) (ea_c (e_var 3) ea_nil))) ?_ ⟨rfl, by decide, .inl Y.gC⟩)
      by_cases hmp : mapOf (stretch r t) = mapOf t.new
      · refine .inl ⟨dRow (turnR r t), ⟨r, t, bk, hro, hti, hmp, rfl, rfl⟩, turnR r t, .im (dTurn t), rfl, rfl, ?_, hnx hmp⟩
        rw [hgo]
        show (if _ then _ else _) = _
        rw [if_pos hmp]
      · refine .inr ⟨⟨r, t, bk, hro, hti, hmp, rfl⟩, rfl, ?_⟩
        have : goP one p = none := by
          rw [hgo]
          show (if _ then _ else _) = _
          rw [if_neg hmp]
        rw [this]
        rfl
    · rintro m' ρ' ⟨r, s5, rfl, rfl, hgo, hir⟩
      rw [List.length_map, List.drop_length] at hgo hir
      have hgo' : goP one p = some r := hgo
      refine ss_one (s_ret (e_eq (c := decide (goP one p = some other)) hr (e_var 4) (e_var 1) (by rw [dRow_inj, decide_eq_true_iff, hgo', Option.some.injEq]) (good_dRow 0 hir.okL.1) (good_dRow 0 hoo.1)) ⟨rfl, rfl⟩)
theorem ok_turned_back {f C : Addr} {fd : FuncData} (B : Bt mg) (TU : CalD P wd K mg base (L2.CX P wd) 8 "turned" pturned [] (spX K C G_turned R_turned)) (SA : CalD P wd K mg base CX0 2 "stretch_at" pstretch_at [] (spD K G_stretch)) (F : FnP K "turned_back" sturned_back [.non] f fd) : FnOk P wd K mg base CX0 9 f fd pturned_back (spD K G_back) := by
  refine fn_okD F cturned_back (fun ds d h => ?_) (fun cdv A outer s H E av ds d hr hG => ?_)
  · obtain ⟨_, _, _, _, _, _, rfl, _⟩ := h
    rfl
  · obtain ⟨r0, p, bk, hin, hgo0, hpl, rfl, rfl⟩ := hG
    have hnd := cturned_back.nd
    have TD : CalD P wd K mg base (L2.CX P wd) 8 "turned" pturned [] (spD K G_turned) := by
      obtain ⟨f, fd, us, FT, hm, hk, hb, hu⟩ := TU.ex
      exact ⟨⟨f, fd, us, FT.imp fun _ _ _ _ => spX_D, hm, hk, hb, hu⟩⟩
    refine ss_cons (s_setL (n := 0) (ds := []) 3 hnd rfl (el_lst ea_nil) (fun d hd => nomatch hd) (fun q => ?_))
    refine ss_cons (s_forU [4, 5, 6, 7] (fun i m' ρ' => ∃ r acc s4 s5 s6 s7, (s4 ≠ .mu ∧ s5 ≠ .mu ∧ s6 ≠ .mu ∧ s7 ≠ .mu) ∧ m' = ⟨fun a => av a ∨ a = q, .own q (List.map dTurn acc)⟩ ∧ ρ' = [.im (dRow r), .im (dPap p), .im bk, .mu, s4, s5, s6, s7] ∧ InR r (p.drop i) ∧ (goP r (p.drop i)).isSome = true ∧ acc ++ fwdP r (p.drop i) = fwdP r0 p ∧ acc.length ≤ i) rfl PassesOwn.never (pg_tup rfl (pgs_cons (pg_name hnd rfl (by first | exact Or.inl rfl | exact Or.inr rfl)) (pgs_cons (pg_name hnd rfl (by first | exact Or.inl rfl | exact Or.inr rfl)) (pgs_cons (pg_name hnd rfl (by first | exact Or.inl rfl | exact Or.inr rfl)) (pgs_cons (pg_name hnd rfl (by first | exact Or.inl rfl | exact Or.inr rfl)) pgs_nil)))))
      (e_var 1) (flat_dTurn p) ⟨r0, [], .no, .no, .no, .no, ⟨nofun, nofun, nofun, nofun⟩, rfl, rfl, hin, hgo0, rfl, Nat.le_refl _⟩ ?_ ?_)
    · rintro i d m' ρ' hd ⟨r, acc, s4, s5, s6, s7, hne, rfl, rfl, hir, hgo, hacc, hal⟩
      obtain ⟨t, ht, rfl⟩ := pap_get hd
      rw [goP_drop ht] at hgo hir hacc
      obtain ⟨hro, hti, hnx⟩ := hir
      have hi : i < p.length := (List.getElem?_eq_some_iff.mp ht).1
      have hmp : mapOf (stretch r t) = mapOf t.new := by
        by_cases h : mapOf (stretch r t) = mapOf t.new
        · exact h
        · have h2 : (if mapOf (stretch r t) = mapOf t.new then goP (turnR r t) (p.drop (i + 1)) else none).isSome = true := hgo
          rw [if_neg h] at h2
          cases h2
      have hgo2 : (goP (turnR r t) (p.drop (i + 1))).isSome = true := by
        have h2 : (if mapOf (stretch r t) = mapOf t.new then goP (turnR r t) (p.drop (i + 1)) else none).isSome = true := hgo
        rw [if_pos hmp] at h2
        exact h2
      refine ⟨_, rfl, rfl, ?_⟩
      refine ss_cons (s_append 3 rfl (by rw [List.length_map]; omega) (e_tup (ea_c (e_var 4) (ea_c (e_len (n := t.new.length) B.len (e_var 7) (by show some (t.new.map dW).length = _; rw [List.length_map])) (ea_c (e_var 6) (ea_c (c_call E0 SA hr (by decide) pass0 (ea_c (e_var 0) (ea_c (e_var 4) (ea_c (e_var 5) ea_nil))) ⟨r, t, hro, hti.1, rfl, rfl⟩) ea_nil))))) ?_)
      refine ss_one (s_set 0 hnd (c_call E0 TD hr (by decide) passL (ea_c (e_var 0) (ea_c (e_tup (ea_c (e_var 4) (ea_c (e_var 5) (ea_c (e_var 6) (ea_c (e_var 7) ea_nil))))) (ea_c (e_var 2) ea_nil))) ⟨r, t, bk, hro, hti, hmp, rfl, rfl⟩) ?_)
      refine ⟨turnR r t, acc ++ [⟨t.at_, t.new.length, stretch r t⟩], _, _, _, _, ⟨?_, ?_, ?_, ?_⟩, ?_, rfl, hnx hmp, hgo2, ?_, ?_⟩
      · exact nofun
      · exact nofun
      · exact nofun
      · exact nofun
      · rw [List.map_append]
        rfl
      · rw [List.append_assoc]
        exact hacc
      · rw [List.length_append]
        show acc.length + 1 ≤ _
        omega
    · rintro m' ρ' ⟨r, acc, s4, s5, s6, s7, ⟨n4, n5, n6, n7⟩, rfl, rfl, hir, hgo, hacc, hal⟩
      rw [List.length_map, List.drop_length] at hacc
      have hacc' : acc = fwdP r0 p := by
        rw [← hacc]
        exact (List.append_nil _).symm
      refine ss_freeze (i := 3) rfl rfl (fun j hj => ?_) (fun av2 => ?_)
      · match j, hj with
        | 0, _ => exact nofun
        | 1, _ => exact nofun
        | 2, _ => exact nofun
        | 3, h => exact absurd rfl h
        | 4, _ => exact fun z => n4 (Option.some.inj z)
        | 5, _ => exact fun z => n5 (Option.some.inj z)
        | 6, _ => exact fun z => n6 (Option.some.inj z)
        | 7, _ => exact fun z => n7 (Option.some.inj z)
        | j + 8, _ => exact fun z => by simp at z
      refine ss_one (s_ret (e_tuple B.tuple (EL.im (el_rev (e_var 3)))) ⟨rfl, ?_⟩)
      rw [hacc']
      unfold backP dPap
      rw [List.map_reverse]
end
end Tk
end
section
namespace Tk
open PySem PySem.Spec PyProof.Rows L2
section
variable {X : Cx} {m : Mm} {e a b : Expr} {es : List Expr} {ρ : List Sl} {P : PD → Prop} {pos p p2 : Pos} {k : Nat} {D : Nd} {st : Stmt} {rest body : List Stmt}
/-- try: x = e except C: .., e raises nothing -/
theorem s_tryE {x cn : Str} {C : Addr} {i : Nat} {d : PD} {px pb ph pp : Pos} {b0 : Stmt} {suite : List Stmt} (hs : X.stack = X.env :: X.outer) (hf : X.env.frame = some X.env.locals) (hN : X.N.Nodup) (hnm : Names X cn (.ref C))
    (ha : ∀ pn xe, E (X.tr pn xe) m e ρ (· = d)) (h : D.nx m (ρ.set i (.im d))) (hi : X.N[i]? = some x := by rfl) (hx : X.env.scope.names.lookup x = some .local := by rfl) (hsw : swapsWith e (some (.Name x px)) pb.line X.env = pure false := by rfl) :
    S X (.Try [.Assign [.Name x px] e pb] [.ExceptHandler (some (.Name cn ph)) none (b0 :: suite) pp] [] [] pos) m ρ D := fun H0 av0 σ H en EE k => by
  refine ws_of (ps_try_only (c := .ref C) (tb := fun W => tAsg (fun σ H Q => ∀ pn xe, WE (X.tr pn xe) e σ H Q) (gName i)) (ts := fun _ _ _ => tNever) (Wout := fun _ _ _ _ => False) hs hf hnm takes0 (fun W pn xe tk _ => ?_) (fun a oe cls d pn hz hf => pss_never)) ?_
  · exact pss_one (ps_set (X := X.tr pn xe) hN hi (.inl hx) ⟨fun pins s σ H Q I h => (h pn xe).run pins s I⟩ hsw (.inr hx))
  · exact fun pn xe => ha pn xe H0 av0 σ H ⟨en.fr, en.sub, en.dom0, en.ok, en.len, en.at_⟩ _ fun v d' H1 k1 o1 r1 p1 => by
      subst p1
      exact k.nx m _ _ H1 h ((en.step k1 o1).set r1) k1.kt
end
def alikeD (one other : List Wd) : PD := if mapOf one = mapOf other then .tuple [.str "alike", dPap [⟨0, one.length, other⟩]] else .tuple [.str "parted", dSt (List.range (max (whole one).1 (whole other).1))]
def fits : List PD → List Wd → Prop
  | _, [] => True
  | st, w :: r => w.n ≤ st.length ∧ fits (stepS st w .none) r
def runS (st : List PD) (r : List Wd) : List PD := r.foldl (fun s w => stepS s w .none) st
def G_ostep (ds : List PD) (d : PD) : Prop := ∃ (st : List PD) (w : Wd) (r : List Wd) (bk : PD), w.ok ∧ okL r ∧ w.n ≤ st.length ∧ st.length ≤ 100000 ∧ ds = [.tuple [.tuple st, dRow (w :: r)], bk] ∧ d = .tuple [.tuple (stepS st w .none), dRow r]
def G_run (ds : List PD) (d : PD) : Prop := ∃ (r : List Wd) (st : List PD) (most : Nat) (bk : PD), okL r ∧ r.length ≤ most ∧ st.length ≤ 10000 ∧ fits st r ∧ ds = [dRow r, .tuple st, dI most, bk] ∧ d = .tuple [.str "ended", dI r.length, .tuple [.tuple (runS st r), .tuple []]]
theorem stepS_len {α : Type} (st : List α) (w : Wd) (z : α) : (stepS st w z).length ≤ st.length + w.l.length := by
  unfold stepS
  rw [List.length_append, List.length_take, List.length_map]
  omega
section
variable {P : Program} {wd : World} {K : PySem.W.Frag} {mg : Str → Option Value} {base : Heap}
theorem ok_of_shuffles {f : Addr} {fd : FuncData} (B : Bt mg) (PA : CalD P wd K mg base CX0 5 "parting" pparting [] (spD K G_parting)) (F : FnP K "of_shuffles" sof_shuffles [] f fd) : FnOk P wd K mg base CX0 6 f fd pof_shuffles (spD K fun ds d => ∃ r t, okL r ∧ okL t ∧ ds = [dRow r, dRow t] ∧ d = alikeD r t) := by
  refine fn_okD F cof_shuffles (fun ds d h => ?_) (fun cdv A outer s H E av ds d hr hG => ?_)
  · obtain ⟨_, _, _, _, rfl, _⟩ := h
    rfl
  · obtain ⟨r, t, hro, hto, rfl, rfl⟩ := hG
    have hnd := cof_shuffles.nd
    refine ss_cons (s_set 2 hnd (c_call E0 PA hr (by decide) pass0 (ea_c (e_var 0) (ea_c (e_var 1) ea_nil)) ⟨r, t, hro, hto, rfl, rfl⟩) ?_)
    have hp : (partD r t = .none ∧ alikeD r t = .tuple [.str "alike", dPap [⟨0, r.length, t⟩]]) ∨ ∃ z, partD r t = .tuple z ∧ alikeD r t = .tuple [.str "parted", .tuple z] := by
      by_cases h : mapOf r = mapOf t
      · exact .inl ⟨if_pos h, if_pos h⟩
      · exact .inr ⟨_, if_neg h, if_neg h⟩
    generalize alikeD r t = dd at hp ⊢
    generalize partD r t = pd at hp ⊢
    rcases hp with ⟨rfl, rfl⟩ | ⟨z, rfl, rfl⟩
    · refine ss_cons (s_if (c := false) ((t_notN (x := .none) (e_var 2) e_non).is rfl) nf (fun _ => ss_nil ?_))
      refine ss_one (s_ret (e_tup (ea_c e_str (ea_c (d := dPap [⟨0, r.length, t⟩]) ?_ ea_nil))) ⟨rfl, rfl⟩)
      refine e_tup (ea_c (d := dTurn ⟨0, r.length, t⟩) ?_ ea_nil)
      refine e_tup (ea_c (d := .tuple [dI 0]) ?_ (ea_c (e_len (x := dRow r) (n := r.length) B.len (e_var 0) (by show some (r.map dW).length = _; rw [List.length_map])) (ea_c e_str (ea_c (e_var 1) ea_nil))))
      exact e_tup (ea_c e_int ea_nil)
    · refine ss_cons (s_if (c := true) ((t_notN (x := .tuple z) (e_var 2) e_non).is rfl) (fun _ => ?_) tf)
      exact ss_one (s_ret (e_tup (ea_c e_str (ea_c (e_var 2) ea_nil))) ⟨rfl, rfl⟩)
theorem ok_alike {f : Addr} {fd : FuncData} (SD : CalD P wd K mg base CX0 1 "said" psaid [] (spD K fun ds d => ∃ x, ds = [x] ∧ d = saidD x)) (AA : CalD P wd K mg base CX0 2 "are_shuffles_alike" pare_shuffles_alike [] (spD K (G_row fun _ => .bool true))) (OS : CalD P wd K mg base CX0 6 "of_shuffles" pof_shuffles [] (spD K fun ds d => ∃ r t, okL r ∧ okL t ∧ ds = [dRow r, dRow t] ∧ d = alikeD r t))
    (F : FnP K "alike" salike [.non] f fd) : FnOk P wd K mg base CX0 7 f fd palike (spD K fun ds d => ∃ r t bk, okL r ∧ okL t ∧ ds = [dRow r, dRow t, bk] ∧ d = alikeD r t) := by
  refine fn_okD F calike (fun ds d h => ?_) (fun cdv A outer s H E av ds d hr hG => ?_)
  · obtain ⟨_, _, _, _, _, rfl, _⟩ := h
    rfl
  · obtain ⟨r, t, bk, hro, hto, rfl, rfl⟩ := hG
    have hnd := calike.nd
    refine ss_cons (s_set 2 hnd (c_call E0 SD hr (by decide) pass0 (ea_c (e_var 2) ea_nil) ⟨bk, rfl, rfl⟩) ?_)
    exact ss_cons (s_if (c := true) (t_w (w_and (c := true) (d := true) (t_e (c_call E0 AA hr (by decide) pass0 (ea_c (e_var 0) ea_nil) ⟨r, hro, rfl, rfl⟩)) (fun _ => w_and1 (t_e (c_call E0 AA hr (by decide) pass0 (ea_c (e_var 1) ea_nil) ⟨t, hto, rfl, rfl⟩))))) (fun _ => ss_one (s_ret (c_call E0 OS hr (by decide) pass0 (ea_c (e_var 0) (ea_c (e_var 1) ea_nil)) ⟨r, t, hro, hto, rfl, rfl⟩) ⟨rfl, rfl⟩)) tf)
theorem ok_next_state {f C : Addr} {fd : FuncData} (gN : mg "NoStep" = some (.ref C)) (ST : CalD P wd K mg base CX0 2 "step" pstep [] (spD K G_step)) (F : FnP K "next_state" snext_state [] f fd) : FnOk P wd K mg base CX0 3 f fd pnext_state (spD K G_step) := by
  refine fn_okD F cnext_state (fun ds d h => ?_) (fun cdv A outer s H E av ds d hr hG => ?_)
  · obtain ⟨_, _, _, _, _, _, _, _, rfl, _⟩ := h
    rfl
  · have hG' := hG
    obtain ⟨st, w, r, bk, hw, hro, hn, hl, rfl, rfl⟩ := hG
    have hnd := cnext_state.nd
    refine ss_cons (s_set 2 hnd e_non ?_)
    refine ss_cons (s_tryE (i := 2) rfl rfl hnd ⟨rfl, by decide, .inl gN⟩ (fun pn xe => c_call E0 ST hr (by decide) pass0 (ea_c (e_var 0) (ea_c (e_var 1) ea_nil)) hG') ?_)
    exact ss_one (s_ret (e_var 2) ⟨rfl, rfl⟩)
theorem ok_run {f : Addr} {fd : FuncData} (NS : CalD P wd K mg base CX0 3 "next_state" pnext_state [] (spD K G_step)) (F : FnP K "run" srun [.non] f fd) : FnOk P wd K mg base CX0 4 f fd prun (spD K G_run) := by
  refine fn_okD F crun (fun ds d h => ?_) (fun cdv A outer s H E av ds d hr hG => ?_)
  · obtain ⟨_, _, _, _, _, _, _, _, rfl, _⟩ := h
    rfl
  · obtain ⟨r, st, most, bk, hro, hmo, hsl, hfi, rfl, rfl⟩ := hG
    have hnd := crun.nd
    have hrl := hro.2
    refine ss_cons (s_set 4 hnd (e_tup (ea_c (e_var 1) (ea_c (e_var 0) ea_nil))) ?_)
    refine ss_cons (s_set 5 hnd e_int ?_)
    refine ss_cons (s_while (fun k m' ρ' => ∃ i st' s6, k + i = r.length ∧ m' = ⟨av, .no⟩ ∧ ρ' = [.im (dRow r), .im (.tuple st), .im (dI most), .im bk, .im (.tuple [.tuple st', dRow (r.drop i)]), .im (dI i), s6] ∧ fits st' (r.drop i) ∧ runS st' (r.drop i) = runS st r ∧ st'.length ≤ 10000 + 12 * i) r.length PassesOwn.never ⟨0, st, .no, rfl, rfl, rfl, hfi, rfl, by omega⟩ ?_)
    rintro k m' ρ' ⟨i, st', s6, hk, rfl, rfl, hf', hru, hl'⟩
    match hd : r.drop i with
    | [] =>
      rw [hd] at hf' hru
      have hi : i = r.length := by
        have := congrArg List.length hd
        rw [List.length_drop] at this
        simp at this
        omega
      refine ⟨false, t_w (w_and (c := false) (d := false) (t_ne (c := true) hr (e_ix (e_var 4) e_int (d := .tuple []) (atI_nat (j := 1) rfl)) (e_tup ea_nil) (by simp) (good_nil 0) (good_nil 0)) nf), nf, fun _ => ?_⟩
      refine ss_cons (s_if (c := true) (t_eq (c := true) hr (e_ix (e_var 4) e_int (d := .tuple []) (atI_nat (j := 1) rfl)) (e_tup ea_nil) (by simp) (good_nil 0) (good_nil 0)) (fun _ => ?_) tf)
      refine ss_one (s_ret (e_tup (ea_c e_str (ea_c (e_var 5) (ea_c (e_var 4) ea_nil)))) ⟨rfl, ?_⟩)
      have hru' : st' = runS st r := hru
      rw [hi, hru']
      rfl
    | w :: rs =>
      rw [hd] at hf' hru
      obtain ⟨hn, hf2⟩ := hf'
      have hwm : w ∈ r := List.mem_of_mem_drop (i := i) (by rw [hd]; exact List.mem_cons_self)
      have hw := hro.1 w hwm
      have hrs : rs = r.drop (i + 1) := by
        have h1 := congrArg (List.drop 1) hd
        rw [List.drop_drop] at h1
        exact h1.symm
      have hi : i < r.length := by
        have := congrArg List.length hd
        rw [List.length_drop] at this
        simp at this
        omega
      have hrs' : okL rs := by
        rw [hrs]
        exact ⟨hro.1.drop _, by rw [List.length_drop]; omega⟩
      refine ⟨true, t_w (w_and (c := true) (d := true) (t_ne (c := false) (n := 1) hr (e_ix (e_var 4) e_int (d := dRow (w :: rs)) (atI_nat (j := 1) rfl)) (e_tup ea_nil) (by simp) (good_dRow 0 (okR_cons hw hrs'.1)) (good_nil 0)) (fun _ => w_and1 ((t_lt (e_var 5) (e_var 2)).is (by simp; omega)))), fun _ => ?_, tf⟩
      refine ss_cons (s_set 6 hnd (c_call E0 NS hr (by decide) pass0 (ea_c (e_var 4) (ea_c (e_var 3) ea_nil)) ⟨st', w, rs, bk, hw, hrs', hn, by omega, rfl, rfl⟩) ?_)
      refine ss_cons (s_if (c := false) ((t_isN (e_var 6) e_non).is rfl) nf fun _ => ss_nil ?_)
      refine ss_cons (s_set 4 hnd (e_var 6) ?_)
      refine ss_one (s_set 5 hnd ((e_add (e_var 5) e_int).is (d' := dI (i + 1)) (by congr 1)) ?_)
      have hl2 := stepS_len st' w PyData.none
      have hw2 := hw.2.1
      refine ⟨k - 1, by omega, i + 1, stepS st' w .none, _, by omega, rfl, by rw [← hrs]; rfl, by rw [← hrs]; exact hf2, by rw [← hrs]; exact hru, by omega⟩
end
end Tk
end
section
namespace Tk
def Least (s : Mp) : Prop := leastM s.1 s.2 = s
theorem leastM_cons (n p : Nat) (ps : List Nat) : leastM (n + 1) (p :: ps) = if p = 0 ∧ 0 ∉ ps then leastM n (ps.map (· - 1)) else (n + 1, p :: ps) := rfl
theorem getD_lt {l : List Nat} {i : Nat} (h : i < l.length) : l.getD i 0 = l[i] := by
  rw [List.getD_eq_getElem?_getD, List.getElem?_eq_getElem h]
  rfl
theorem leastM_good : ∀ (n : Nat) (p : List Nat), Good (n, p) → Good (leastM n p)
  | 0, p, h => h
  | n + 1, [], h => h
  | n + 1, p :: ps, h => by
    rw [leastM_cons]
    by_cases c : p = 0 ∧ 0 ∉ ps
    · rw [if_pos c]
      refine leastM_good n _ fun k hk => ?_
      obtain ⟨j, hj, rfl⟩ := List.mem_map.mp hk
      have h1 : j < n + 1 := h j (List.mem_cons_of_mem _ hj)
      have h2 : j ≠ 0 := fun z => c.2 (z ▸ hj)
      show j - 1 < n
      omega
    · rw [if_neg c]
      exact h
theorem leastM_least : ∀ (n : Nat) (p : List Nat), Least (leastM n p)
  | 0, p => rfl
  | n + 1, [] => rfl
  | n + 1, p :: ps => by
    rw [leastM_cons]
    by_cases c : p = 0 ∧ 0 ∉ ps
    · rw [if_pos c]
      exact leastM_least n _
    · rw [if_neg c]
      show leastM (n + 1) (p :: ps) = _
      rw [leastM_cons, if_neg c]
theorem leastM_act : ∀ (n : Nat) (p : List Nat), Good (n, p) → ∀ S : Nat → Nat, act (leastM n p) S = act (n, p) S
  | 0, p, _, S => rfl
  | n + 1, [], _, S => rfl
  | n + 1, p :: ps, h, S => by
    rw [leastM_cons]
    by_cases c : p = 0 ∧ 0 ∉ ps
    · rw [if_pos c]
      obtain ⟨rfl, c2⟩ := c
      have hb : ∀ j ∈ ps, 1 ≤ j ∧ j ≤ n := fun j hj => by
        have h1 : j < n + 1 := h j (List.mem_cons_of_mem _ hj)
        have h2 : j ≠ 0 := fun z => c2 (z ▸ hj)
        omega
      rw [leastM_act n (ps.map (· - 1)) (fun k hk => by
        obtain ⟨j, hj, rfl⟩ := List.mem_map.mp hk
        have := hb j hj
        show j - 1 < n
        omega) S]
      funext i
      unfold act
      dsimp only
      rw [List.length_map, List.length_cons]
      by_cases h1 : i < ps.length
      · rw [if_pos h1, if_pos (by omega)]
        have hj : ps.length - 1 - i < ps.length := by omega
        have e1 : (0 :: ps).getD (ps.length + 1 - 1 - i) 0 = ps[ps.length - 1 - i] := by
          rw [show ps.length + 1 - 1 - i = (ps.length - 1 - i) + 1 by omega, List.getD_cons_succ, getD_lt hj]
        have e2 : (ps.map (· - 1)).getD (ps.length - 1 - i) 0 = ps[ps.length - 1 - i] - 1 := by
          rw [getD_lt (by rw [List.length_map]; exact hj), List.getElem_map]
        rw [e1, e2]
        have := hb _ (List.getElem_mem hj)
        congr 1
        omega
      · rw [if_neg h1]
        by_cases h2 : i = ps.length
        · subst h2
          rw [if_pos (by omega), show ps.length + 1 - 1 - ps.length = 0 by omega, List.getD_cons_zero]
          congr 1
          omega
        · rw [if_neg (by omega)]
          congr 1
          omega
    · rw [if_neg c]
theorem uniq_aux {n m : Nat} {p q : List Nat} (gp : Good (n, p)) (gq : Good (m, q)) (h : ∀ i, act (n, p) id i = act (m, q) id i) (lt : p.length < q.length) : ¬ Least (m, q) := by
  have hq : 0 < q.length := by omega
  -- far down both do the same
  have e0 := h (p.length + q.length)
  unfold act at h e0
  dsimp only [id] at h e0
  rw [if_neg (by omega), if_neg (by omega)] at e0
  have hm : m = n + (q.length - p.length) := by omega
  have q0 : q.getD 0 0 = 0 := by
    have e1 := h (q.length - 1)
    rw [if_neg (by omega), if_pos (by omega), show q.length - 1 - (q.length - 1) = 0 by omega] at e1
    have : q.getD 0 0 < m := by
      rw [getD_lt hq]
      exact gq _ (List.getElem_mem hq)
    omega
  have qn : ∀ j, 0 < j → (hj : j < q.length) → q[j] ≠ 0 := by
    intro j h0 hj z
    have e1 := h (q.length - 1 - j)
    rw [if_pos (show q.length - 1 - j < q.length by omega), show q.length - 1 - (q.length - 1 - j) = j by omega, getD_lt hj, z] at e1
    by_cases c : q.length - 1 - j < p.length
    · rw [if_pos c] at e1
      have hp : p.length - 1 - (q.length - 1 - j) < p.length := by omega
      have hp' := gp _ (List.getElem_mem hp)
      rw [getD_lt hp] at e1
      dsimp only at hp'
      omega
    · rw [if_neg c] at e1
      omega
  match q, hq, q0, qn, m, hm with
  | 0 :: ps, _, _, qn, 0, hm => exact absurd hm (by simp at lt ⊢; omega)
  | 0 :: ps, _, _, qn, m + 1, hm =>
    intro hl
    have hl' : leastM (m + 1) (0 :: ps) = (m + 1, 0 :: ps) := hl
    have c : (0 : Nat) = 0 ∧ 0 ∉ ps := ⟨rfl, fun z => by
      obtain ⟨j, hj, e⟩ := List.mem_iff_getElem.mp z
      exact qn (j + 1) (by omega) (by rw [List.length_cons]; omega) (by rw [List.getElem_cons_succ]; exact e)⟩
    rw [leastM_cons, if_pos c] at hl'
    have h2 := leastM_len m (ps.map (· - 1))
    rw [hl', List.length_map, List.length_cons] at h2
    omega
/-- a least pair is told by what it does -/
theorem uniq {s t : Mp} (gs : Good s) (gt : Good t) (ls : Least s) (lt : Least t) (h : ∀ i, act s id i = act t id i) : s = t := by
  obtain ⟨n, p⟩ := s
  obtain ⟨m, q⟩ := t
  rcases Nat.lt_trichotomy p.length q.length with c | c | c
  · exact absurd lt (uniq_aux gs gt h c)
  · have e0 := h (p.length + q.length)
    unfold act at h e0
    dsimp only [id] at h e0
    rw [if_neg (by omega), if_neg (by omega)] at e0
    have hm : n = m := by omega
    subst hm
    congr 1
    refine List.ext_getElem c fun i h1 h2 => ?_
    have e1 := h (p.length - 1 - i)
    rw [if_pos (by omega), if_pos (by omega), show p.length - 1 - (p.length - 1 - i) = i by omega, show q.length - 1 - (p.length - 1 - i) = i by omega, getD_lt h1, getD_lt h2] at e1
    have b1 : p[i] < n := gs _ (List.getElem_mem h1)
    have b2 : q[i] < n := gt _ (List.getElem_mem h2)
    omega
  · exact absurd ls (uniq_aux gt gs (fun i => (h i).symm) c)
theorem whole_good {r : List Wd} (h : okR r) : Good (whole r) := by
  have : ∀ (r : List Wd) (s : Mp), okR r → Good s → Good (r.foldl mw s) := by
    intro r
    induction r with
    | nil => exact fun s _ hs => hs
    | cons w r ih => exact fun s hr hs => ih _ (fun x hx => hr x (List.mem_cons_of_mem _ hx)) (mw_good hs (hr w List.mem_cons_self))
  exact this r _ h (fun k hk => nomatch hk)
theorem mapOf_good {r : List Wd} (h : okR r) : Good (mapOf r) := leastM_good _ _ (whole_good h)
theorem mapOf_least (r : List Wd) : Least (mapOf r) := leastM_least _ _
theorem mapOf_act {r : List Wd} (h : okR r) (S : Nat → Nat) : act (mapOf r) S = act (whole r) S := leastM_act _ _ (whole_good h) S
def actR (r : List Wd) (S : Nat → Nat) : Nat → Nat := r.foldl (fun S w => act (w.n, w.l) S) S
theorem act_whole {r : List Wd} (h : okR r) (S : Nat → Nat) : act (whole r) S = actR r S := by
  have : ∀ (r : List Wd) (s : Mp), okR r → Good s → act (r.foldl mw s) S = actR r (act s S) := by
    intro r
    induction r with
    | nil => exact fun s _ hs => rfl
    | cons w r ih =>
      intro s hr hs
      have hw := hr w List.mem_cons_self
      show act (r.foldl mw (mw s w)) S = actR r (act (w.n, w.l) (act s S))
      rw [ih _ (fun x hx => hr x (List.mem_cons_of_mem _ hx)) (mw_good hs hw), act_mw hw S hs]
  have h0 := this r (0, []) h (fun k hk => nomatch hk)
  have e : act (0, []) S = S := by
    funext i
    unfold act
    dsimp only
    rw [if_neg (by simp)]
    rfl
  rw [e] at h0
  exact h0
theorem actR_append (a b : List Wd) (S : Nat → Nat) : actR (a ++ b) S = actR b (actR a S) := List.foldl_append ..
theorem mapOf_eq {r t : List Wd} (hr : okR r) (ht : okR t) (h : actR r id = actR t id) : mapOf r = mapOf t :=
  uniq (mapOf_good hr) (mapOf_good ht) (mapOf_least r) (mapOf_least t) fun i => by rw [mapOf_act hr, mapOf_act ht, act_whole hr, act_whole ht, h]
theorem act_comp (s : Mp) (S : Nat → Nat) (i : Nat) : act s S i = S (act s id i) := by
  unfold act
  dsimp only [id]
  split <;> rfl
theorem actR_comp : ∀ (r : List Wd) (S : Nat → Nat) (i : Nat), actR r S i = S (actR r id i)
  | [], S, i => rfl
  | w :: r, S, i => by
    show actR r (act (w.n, w.l) S) i = S (actR r (act (w.n, w.l) id) i)
    rw [actR_comp r (act (w.n, w.l) S), actR_comp r (act (w.n, w.l) id), act_comp]
theorem actR_of {r t : List Wd} (hr : okR r) (ht : okR t) (h : mapOf r = mapOf t) : actR r = actR t := by
  funext S
  rw [← act_whole hr, ← act_whole ht, ← mapOf_act hr, ← mapOf_act ht, h]
/-- rows of shuffles have one map where they do the same -/
theorem mapOf_iff {r t : List Wd} (hr : okR r) (ht : okR t) : mapOf r = mapOf t ↔ actR r id = actR t id := ⟨fun h => by rw [actR_of hr ht h], mapOf_eq hr ht⟩
/-- a stretch put for one with the same map -/
theorem mapOf_put {a b c d : List Wd} (ha : okR a) (hb : okR b) (hc : okR c) (hd : okR d) (h : mapOf b = mapOf c) : mapOf (a ++ b ++ d) = mapOf (a ++ c ++ d) := by
  refine mapOf_eq ((ha.append hb).append hd) ((ha.append hc).append hd) ?_
  rw [actR_append, actR_append, actR_append, actR_append, actR_of hb hc h]
end Tk
end
section
namespace Tk
/-! ## papers -/
theorem goP_cons (r : List Wd) (t : Tn) (ts : List Tn) : goP r (t :: ts) = if mapOf (stretch r t) = mapOf t.new then goP (turnR r t) ts else none := rfl
theorem goP_append : ∀ (p q : List Tn) (r : List Wd), goP r (p ++ q) = (goP r p).bind fun r' => goP r' q
  | [], q, r => rfl
  | t :: p, q, r => by
    rw [List.cons_append, goP_cons, goP_cons]
    by_cases h : mapOf (stretch r t) = mapOf t.new
    · rw [if_pos h, if_pos h]
      exact goP_append p q _
    · rw [if_neg h, if_neg h]
      rfl
theorem InR_append : ∀ (p q : List Tn) (r : List Wd), InR r p → (∀ r', goP r p = some r' → InR r' q) → InR r (p ++ q)
  | [], q, r, _, h => h r rfl
  | t :: p, q, r, h1, h => by
    obtain ⟨a, b, c⟩ := h1
    refine ⟨a, b, fun e => InR_append p q _ (c e) fun r' hr' => h r' ?_⟩
    rw [goP_cons, if_pos e]
    exact hr'
def backT (r : List Wd) (t : Tn) : Tn := ⟨t.at_, t.new.length, stretch r t⟩
theorem turn_len {r : List Wd} {t : Tn} (h : t.at_ + t.many ≤ r.length) : (r.take t.at_).length = t.at_ := by
  rw [List.length_take]
  omega
theorem stretch_back {r : List Wd} {t : Tn} (h : t.at_ + t.many ≤ r.length) : stretch (turnR r t) (backT r t) = t.new := by
  unfold stretch turnR backT
  dsimp only
  rw [List.append_assoc, List.drop_append_of_le_length (Nat.le_of_eq (turn_len h).symm), List.drop_of_length_le (Nat.le_of_eq (turn_len h)), List.nil_append, List.take_left']
  rfl
theorem turn_back {r : List Wd} {t : Tn} (h : t.at_ + t.many ≤ r.length) : turnR (turnR r t) (backT r t) = r := by
  show List.take t.at_ (turnR r t) ++ stretch r t ++ List.drop (t.at_ + t.new.length) (turnR r t) = r
  unfold turnR
  rw [List.append_assoc (r.take t.at_), List.take_left' (turn_len h), List.drop_append, List.drop_of_length_le (by rw [turn_len h]; omega), turn_len h, List.nil_append, Nat.add_sub_cancel_left, List.drop_left' rfl]
  unfold stretch
  rw [List.append_assoc]
  have e1 : (r.drop t.at_).take t.many ++ r.drop (t.at_ + t.many) = r.drop t.at_ := by
    rw [← List.drop_drop]
    exact List.take_append_drop _ _
  rw [e1]
  exact List.take_append_drop _ _
theorem turn_len2 {r : List Wd} {t : Tn} (h : t.at_ + t.many ≤ r.length) : t.at_ + t.new.length ≤ (turnR r t).length := by
  unfold turnR
  rw [List.length_append, List.length_append, turn_len h]
  omega
theorem back_cons (r : List Wd) (t : Tn) (p : List Tn) : backP r (t :: p) = backP (turnR r t) p ++ [backT r t] := by
  show (backT r t :: fwdP (turnR r t) p).reverse = _
  rw [List.reverse_cons]
  rfl
/-- a paper turned back -/
theorem back_ok : ∀ (p : List Tn) (r r' : List Wd), InR r p → goP r p = some r' → goP r' (backP r p) = some r ∧ InR r' (backP r p)
  | [], r, r', h, e => by
    have e' : some r = some r' := e
    cases e'
    exact ⟨rfl, h⟩
  | t :: p, r, r', h, e => by
    obtain ⟨a, b, c⟩ := h
    rw [goP_cons] at e
    by_cases hm : mapOf (stretch r t) = mapOf t.new
    · rw [if_pos hm] at e
      obtain ⟨h1, h2⟩ := back_ok p _ _ (c hm) e
      rw [back_cons]
      have hin : (backT r t).inR (turnR r t) := ⟨turn_len2 b.1, stretch_ok a t⟩
      constructor
      · rw [goP_append, h1]
        show goP (turnR r t) [backT r t] = some r
        rw [goP_cons, stretch_back b.1, if_pos (show mapOf t.new = mapOf (backT r t).new from hm.symm), turn_back b.1]
        rfl
      · refine InR_append _ _ _ h2 fun r2 e2 => ?_
        rw [h1] at e2
        cases e2
        refine ⟨(c hm).okL, hin, fun _ => ?_⟩
        rw [turn_back b.1]
        exact a
    · rw [if_neg hm] at e
      cases e
theorem back_len (r : List Wd) (p : List Tn) : (backP r p).length = p.length := by
  have : ∀ (p : List Tn) (r : List Wd), (fwdP r p).length = p.length := by
    intro p
    induction p with
    | nil => exact fun _ => rfl
    | cons t p ih => exact fun r => congrArg (· + 1) (ih _)
  unfold backP
  rw [List.length_reverse, this]
/-- all of a row put for another -/
theorem all_turn (r t : List Wd) : stretch r ⟨0, r.length, t⟩ = r ∧ turnR r ⟨0, r.length, t⟩ = t := by
  constructor
  · show (r.drop 0).take r.length = r
    rw [List.drop_zero, List.take_length]
  · show r.take 0 ++ t ++ r.drop (0 + r.length) = t
    rw [List.take_zero, Nat.zero_add, List.drop_length, List.nil_append, List.append_nil]
theorem all_go (r t : List Wd) : goP r [⟨0, r.length, t⟩] = if mapOf r = mapOf t then some t else none := by
  rw [goP_cons, (all_turn r t).1, (all_turn r t).2]
  rfl
theorem all_in {r t : List Wd} (hr : okL r) (ht : okL t) : InR r [⟨0, r.length, t⟩] := ⟨hr, ⟨by show 0 + r.length ≤ r.length; omega, ht⟩, fun _ => by rw [(all_turn r t).2]; exact ht⟩
/-! ## two neighbours as one -/
def togW (v w : Wd) : Option Wd := if 8 < (whole [v, w]).1 ∨ 12 < (whole [v, w]).2.length then none else some ⟨(whole [v, w]).1, (whole [v, w]).2⟩
theorem okR_two {v w : Wd} (hv : v.ok) (hw : w.ok) : okR [v, w] := fun x hx => by
  rcases List.mem_cons.mp hx with rfl | hx
  · exact hv
  · rw [List.mem_singleton.mp hx]
    exact hw
theorem okR_one {v : Wd} (hv : v.ok) : okR [v] := fun x hx => by
  rw [List.mem_singleton.mp hx]
  exact hv
theorem tog_ok {v w u : Wd} (hv : v.ok) (hw : w.ok) (h : togW v w = some u) : u.ok ∧ mapOf [v, w] = mapOf [u] := by
  unfold togW at h
  by_cases c : 8 < (whole [v, w]).1 ∨ 12 < (whole [v, w]).2.length
  · rw [if_pos c] at h
    cases h
  · rw [if_neg c] at h
    have hu : u = ⟨(whole [v, w]).1, (whole [v, w]).2⟩ := (Option.some.inj h).symm
    subst hu
    have hg := whole_good (okR_two hv hw)
    have ho : (⟨(whole [v, w]).1, (whole [v, w]).2⟩ : Wd).ok := ⟨by show (whole [v, w]).1 ≤ 8; omega, by show (whole [v, w]).2.length ≤ 12; omega, hg⟩
    refine ⟨ho, mapOf_eq (okR_two hv hw) (okR_one ho) ?_⟩
    rw [← act_whole (okR_two hv hw)]
    rfl
def shr : List Wd → Wd → List Wd → List Wd × List Tn
  | pre, w, [] => (pre ++ [w], [])
  | pre, w, v :: rest => match togW w v with
    | none => shr (pre ++ [w]) v rest
    | some u => ((shr pre u rest).1, ⟨pre.length, 2, [u]⟩ :: (shr pre u rest).2)
def shrunk : List Wd → List Wd × List Tn
  | [] => ([], [])
  | w :: r => shr [] w r
theorem shr_ok : ∀ (rest pre : List Wd) (w : Wd), okL (pre ++ w :: rest) → InR (pre ++ w :: rest) (shr pre w rest).2 ∧ goP (pre ++ w :: rest) (shr pre w rest).2 = some (shr pre w rest).1 ∧ mapOf (shr pre w rest).1 = mapOf (pre ++ w :: rest) ∧ okL (shr pre w rest).1 ∧ (shr pre w rest).2.length ≤ rest.length
  | [], pre, w, h => ⟨h, rfl, rfl, h, Nat.le_refl _⟩
  | v :: rest, pre, w, h => by
    have e1 : pre ++ w :: v :: rest = (pre ++ [w]) ++ v :: rest := by rw [List.append_assoc]; rfl
    have hv : v.ok := h.1 v (List.mem_append_right _ (List.mem_cons_of_mem _ List.mem_cons_self))
    have hw : w.ok := h.1 w (List.mem_append_right _ List.mem_cons_self)
    cases e : togW w v with
    | none =>
      have es : shr pre w (v :: rest) = shr (pre ++ [w]) v rest := by
        rw [shr, e]
      rw [es, e1]
      rw [e1] at h
      obtain ⟨a, b, c, d, g⟩ := shr_ok rest (pre ++ [w]) v h
      exact ⟨a, b, c, d, by rw [List.length_cons]; omega⟩
    | some u =>
      have es : shr pre w (v :: rest) = ((shr pre u rest).1, ⟨pre.length, 2, [u]⟩ :: (shr pre u rest).2) := by
        rw [shr, e]
      rw [es]
      obtain ⟨hu, hm⟩ := tog_ok hw hv e
      have hpre : okR pre := fun x hx => h.1 x (List.mem_append_left _ hx)
      have hrest : okR rest := fun x hx => h.1 x (List.mem_append_right _ (List.mem_cons_of_mem _ (List.mem_cons_of_mem _ hx)))
      have hl := h.2
      rw [List.length_append, List.length_cons, List.length_cons] at hl
      have hnew : okL (pre ++ u :: rest) := ⟨hpre.append (fun x hx => (List.mem_cons.mp hx).elim (fun z => z ▸ hu) (hrest x)), by rw [List.length_append, List.length_cons]; omega⟩
      obtain ⟨a, b, c, d, g⟩ := shr_ok rest pre u hnew
      have est : stretch (pre ++ w :: v :: rest) ⟨pre.length, 2, [u]⟩ = [w, v] := by
        show ((pre ++ w :: v :: rest).drop pre.length).take 2 = _
        rw [List.drop_left' rfl]
        rfl
      have etr : turnR (pre ++ w :: v :: rest) ⟨pre.length, 2, [u]⟩ = pre ++ u :: rest := by
        show (pre ++ w :: v :: rest).take pre.length ++ [u] ++ (pre ++ w :: v :: rest).drop (pre.length + 2) = _
        rw [List.take_left' rfl, List.append_assoc, List.drop_append, List.drop_of_length_le (by omega), Nat.add_sub_cancel_left]
        rfl
      have emap : mapOf (pre ++ u :: rest) = mapOf (pre ++ w :: v :: rest) := by
        have := mapOf_put hpre (okR_one hu) (okR_two hw hv) hrest hm.symm
        rw [List.append_assoc, List.append_assoc] at this
        exact this
      refine ⟨⟨h, ⟨by show pre.length + 2 ≤ _; rw [List.length_append, List.length_cons, List.length_cons]; omega, okR_one hu, by show [u].length ≤ 1000; simp⟩, fun _ => by rw [etr]; exact a⟩, ?_, by rw [← emap]; exact c, d, by rw [List.length_cons, List.length_cons]; omega⟩
      rw [goP_cons, est, if_pos hm, etr]
      exact b
theorem shrunk_ok {r : List Wd} (h : okL r) : InR r (shrunk r).2 ∧ goP r (shrunk r).2 = some (shrunk r).1 ∧ mapOf (shrunk r).1 = mapOf r ∧ okL (shrunk r).1 ∧ (shrunk r).2.length ≤ r.length := by
  match r with
  | [] => exact ⟨h, rfl, rfl, h, Nat.le_refl _⟩
  | w :: r =>
    obtain ⟨a, b, c, d, g⟩ := shr_ok r [] w h
    exact ⟨a, b, c, d, by rw [List.length_cons]; exact Nat.le_succ_of_le g⟩
def madeP (one other : List Wd) : List Tn := (shrunk one).2 ++ [⟨0, (shrunk one).1.length, (shrunk other).1⟩] ++ backP other (shrunk other).2
/-- the paper made here leads where both do the same, and only there -/
theorem made_ok {one other : List Wd} (h1 : okL one) (h2 : okL other) : InR one (madeP one other) ∧ goP one (madeP one other) = if mapOf one = mapOf other then some other else none := by
  obtain ⟨a, b, c, d, _⟩ := shrunk_ok h1
  obtain ⟨a2, b2, c2, d2, _⟩ := shrunk_ok h2
  obtain ⟨k1, k2⟩ := back_ok _ _ _ a2 b2
  have e : goP one ((shrunk one).2 ++ [⟨0, (shrunk one).1.length, (shrunk other).1⟩]) = if mapOf one = mapOf other then some (shrunk other).1 else none := by
    rw [goP_append, b]
    show goP (shrunk one).1 _ = _
    rw [all_go, c, c2]
  unfold madeP
  refine ⟨InR_append _ _ _ (InR_append _ _ _ a fun r' hr' => ?_) fun r' hr' => ?_, ?_⟩
  · rw [b] at hr'
    cases hr'
    exact all_in d d2
  · rw [e] at hr'
    by_cases hm : mapOf one = mapOf other
    · rw [if_pos hm] at hr'
      cases hr'
      exact k2
    · rw [if_neg hm] at hr'
      cases hr'
  · rw [goP_append, e]
    by_cases hm : mapOf one = mapOf other
    · rw [if_pos hm, if_pos hm]
      exact k1
    · rw [if_neg hm, if_neg hm]
      rfl
end Tk
end
section
namespace Tk
open PySem PySem.Spec PyProof.Rows L2
/-! ## stacks of the numbers 0, 1, 2 .. -/
def stk (s : Mp) (N : Nat) : List Nat := List.range (N - s.1) ++ s.2.map (· + (N - s.1))
theorem range_split (a b : Nat) : List.range (a + b) = List.range a ++ (List.range b).map (· + a) := by
  rw [List.range_add]
  congr 1
  exact List.map_congr_left fun x _ => Nat.add_comm ..
theorem stk_split (n lk N : Nat) (p : List Nat) (h : n + lk ≤ N) : stk (n, p) N = List.range (N - (n + lk)) ++ (List.range lk ++ p.map (· + lk)).map (· + (N - (n + lk))) := by
  unfold stk
  dsimp only
  have e : N - n = (N - (n + lk)) + lk := by omega
  rw [e, range_split, List.map_append, List.append_assoc, List.map_map]
  congr 2
  exact List.map_congr_left fun x _ => by show x + (N - (n + lk) + lk) = x + lk + (N - (n + lk)); omega
theorem stk_len (s : Mp) (N : Nat) : (stk s N).length = (N - s.1) + s.2.length := by
  unfold stk
  rw [List.length_append, List.length_range, List.length_map]
theorem stk_step {s : Mp} {w : Wd} {N : Nat} (hw : w.ok) (h : (mw s w).1 ≤ N) : w.n ≤ (stk s N).length ∧ stepS (stk s N) w 0 = stk (mw s w) N := by
  obtain ⟨n, p⟩ := s
  obtain ⟨h1, h2, h3⟩ := hw
  have hm : (mw (n, p) w).1 = n + (w.n - p.length) := rfl
  rw [hm] at h
  have e1 := stk_split n (w.n - p.length) N p h
  have e2 : mw (n, p) w = (n + (w.n - p.length), (List.range (w.n - p.length) ++ p.map (· + (w.n - p.length))).take ((w.n - p.length) + p.length - w.n) ++ w.l.map fun k => (List.range (w.n - p.length) ++ p.map (· + (w.n - p.length))).getD ((w.n - p.length) + p.length - w.n + k) 0) := rfl
  have hPl : (List.range (w.n - p.length) ++ p.map (· + (w.n - p.length))).length = (w.n - p.length) + p.length := by rw [List.length_append, List.length_range, List.length_map]
  rw [e2, e1]
  generalize hP : List.range (w.n - p.length) ++ p.map (· + (w.n - p.length)) = P at hPl ⊢
  generalize hlk : w.n - p.length = lk at h hPl ⊢
  have hl : (List.range (N - (n + lk)) ++ P.map (· + (N - (n + lk)))).length = (N - (n + lk)) + (lk + p.length) := by rw [List.length_append, List.length_range, List.length_map, hPl]
  constructor
  · rw [hl]
    omega
  · unfold stepS stk
    dsimp only
    rw [hl, List.map_append, ← List.append_assoc]
    congr 1
    · rw [List.take_append, List.length_range, List.take_of_length_le (by rw [List.length_range]; omega), ← List.map_take]
      congr 3
      omega
    · rw [List.map_map]
      refine List.map_congr_left fun k hk => ?_
      have hk' := h3 k hk
      show _ = P.getD (lk + p.length - w.n + k) 0 + (N - (n + lk))
      rw [List.getD_eq_getElem?_getD, List.getElem?_append_right (by rw [List.length_range]; omega), List.length_range, List.getElem?_map, List.getD_eq_getElem?_getD]
      have ei : N - (n + lk) + (lk + p.length) - w.n + k - (N - (n + lk)) = lk + p.length - w.n + k := by omega
      rw [ei, List.getElem?_eq_getElem (show lk + p.length - w.n + k < P.length by omega)]
      rfl
theorem mw_mono (s : Mp) (w : Wd) : s.1 ≤ (mw s w).1 := Nat.le_add_right ..
theorem fold_mono : ∀ (r : List Wd) (s : Mp), s.1 ≤ (r.foldl mw s).1
  | [], s => Nat.le_refl _
  | w :: r, s => Nat.le_trans (mw_mono s w) (fold_mono r _)
theorem step_num {st : List Nat} {w : Wd} (hw : w.ok) (h : w.n ≤ st.length) : stepS (st.map dNum) w .none = (stepS st w 0).map dNum := by
  obtain ⟨h1, h2, h3⟩ := hw
  unfold stepS
  rw [List.map_append, ← List.map_take, List.length_map, List.map_map]
  congr 1
  refine List.map_congr_left fun k hk => ?_
  have hk' := h3 k hk
  show (st.map dNum).getD (st.length - w.n + k) .none = dNum (st.getD (st.length - w.n + k) 0)
  rw [List.getD_eq_getElem?_getD, List.getD_eq_getElem?_getD, List.getElem?_map, List.getElem?_eq_getElem (show st.length - w.n + k < st.length by omega)]
  rfl
theorem run_stk : ∀ (r : List Wd) (s : Mp) (N : Nat), okR r → (r.foldl mw s).1 ≤ N → fits ((stk s N).map dNum) r ∧ runS ((stk s N).map dNum) r = (stk (r.foldl mw s) N).map dNum
  | [], s, N, _, _ => ⟨trivial, rfl⟩
  | w :: r, s, N, hr, h => by
    have hw := hr w List.mem_cons_self
    have h1 : (mw s w).1 ≤ N := Nat.le_trans (fold_mono r (mw s w)) h
    obtain ⟨a, b⟩ := stk_step hw h1
    obtain ⟨c, d⟩ := run_stk r (mw s w) N (fun x hx => hr x (List.mem_cons_of_mem _ hx)) h
    have e : stepS ((stk s N).map dNum) w .none = (stk (mw s w) N).map dNum := by rw [step_num hw a, b]
    refine ⟨⟨by rw [List.length_map]; exact a, by rw [e]; exact c⟩, ?_⟩
    show runS (stepS ((stk s N).map dNum) w .none) r = _
    rw [e]
    exact d
theorem run_range {r : List Wd} {N : Nat} (hr : okR r) (h : (whole r).1 ≤ N) : fits ((List.range N).map dNum) r ∧ runS ((List.range N).map dNum) r = (stk (whole r) N).map dNum := by
  have e : stk (0, []) N = List.range N := by
    unfold stk
    dsimp only
    rw [Nat.sub_zero, List.map_nil, List.append_nil]
  have := run_stk r (0, []) N hr h
  rw [e] at this
  exact this
/-- what a map does, read off the stack -/
theorem act_stk {s : Mp} {N i : Nat} (hg : Good s) (h : s.1 ≤ N) (hi : i < (stk s N).length) : act s id i = N - 1 - (stk s N).getD ((stk s N).length - 1 - i) 0 := by
  obtain ⟨n, p⟩ := s
  have hl := stk_len (n, p) N
  rw [hl] at hi ⊢
  dsimp only at hi h ⊢
  unfold act stk
  dsimp only [id]
  by_cases c : i < p.length
  · rw [if_pos c, List.getD_eq_getElem?_getD (l := List.range (N - n) ++ _), List.getElem?_append_right (by rw [List.length_range]; omega), List.length_range, List.getElem?_map]
    have ei : N - n + p.length - 1 - i - (N - n) = p.length - 1 - i := by omega
    have hj : p.length - 1 - i < p.length := by omega
    rw [ei, List.getElem?_eq_getElem hj, getD_lt hj]
    show n - 1 - _ = N - 1 - (_ + (N - n))
    have := hg _ (List.getElem_mem hj)
    dsimp only at this
    omega
  · rw [if_neg c, List.getD_eq_getElem?_getD, List.getElem?_append_left (by rw [List.length_range]; omega), List.getElem?_range (by omega)]
    show _ = N - 1 - (N - n + p.length - 1 - i)
    omega
theorem stk_inj {s t : Mp} {N : Nat} (gs : Good s) (gt : Good t) (hs : s.1 ≤ N) (ht : t.1 ≤ N) (h : stk s N = stk t N) : ∀ i, act s id i = act t id i := by
  intro i
  by_cases hi : i < (stk s N).length
  · rw [act_stk gs hs hi, act_stk gt ht (by rw [← h]; exact hi), h]
  · have h1 := stk_len s N
    have h2 := stk_len t N
    rw [← h] at h2
    unfold act
    dsimp only [id]
    rw [if_neg (by omega), if_neg (by omega)]
    omega
theorem dNum_inj {a b : List Nat} (h : a.map dNum = b.map dNum) : a = b := (List.map_inj_right fun x y e => by
  injection e with e
  injection e with _ e
  injection e with e _
  injection e with e
  omega).mp h
/-- unlike maps leave unlike stacks -/
theorem run_parts {r t : List Wd} {N : Nat} (hr : okR r) (ht : okR t) (h1 : (whole r).1 ≤ N) (h2 : (whole t).1 ≤ N) (hne : mapOf r ≠ mapOf t) : runS ((List.range N).map dNum) r ≠ runS ((List.range N).map dNum) t := by
  rw [(run_range hr h1).2, (run_range ht h2).2]
  intro e
  have e2 := dNum_inj e
  refine hne (uniq (mapOf_good hr) (mapOf_good ht) (mapOf_least r) (mapOf_least t) fun i => ?_)
  rw [mapOf_act hr, mapOf_act ht]
  exact stk_inj (whole_good hr) (whole_good ht) h1 h2 e2 i
/-- a least map, a word more, and the least map of that -/
theorem behind_ok {r : List Wd} {w : Wd} (hr : okR r) (hw : w.ok) : leastM (mw (mapOf r) w).1 (mw (mapOf r) w).2 = mapOf (r ++ [w]) := by
  have hrw : okR (r ++ [w]) := hr.append (okR_one hw)
  have g1 : Good (mw (mapOf r) w) := mw_good (mapOf_good hr) hw
  refine uniq (leastM_good _ _ g1) (mapOf_good hrw) (leastM_least _ _) (mapOf_least _) fun i => ?_
  rw [show act (leastM (mw (mapOf r) w).1 (mw (mapOf r) w).2) id = act (mw (mapOf r) w) id from leastM_act _ _ g1 id, mapOf_act hrw, whole_snoc]
  rw [act_mw hw id (mapOf_good hr), act_mw hw id (whole_good hr), mapOf_act hr]
end Tk
end
section
namespace Tk
open PySem PySem.Spec PyProof.Rows L2
/-! ## books of maps -/
abbrev Bk := List (Mp × List Wd)
def getK : Bk → Mp → Option (List Wd)
  | [], _ => none
  | e :: r, k => if e.1 = k then some e.2 else getK r k
def behind (k : Mp) (w : Wd) : Mp := leastM (mw k w).1 (mw k w).2
def addM (known found : Bk) (e : Mp × List Wd) (w : Wd) : Bk := if (getK known (behind e.1 w)).isSome || (getK found (behind e.1 w)).isSome then found else found ++ [(behind e.1 w, e.2 ++ [w])]
def rowM (known : Bk) (few : List Wd) (found : Bk) (e : Mp × List Wd) : Bk := few.foldl (fun f w => addM known f e w) found
def nextM (known last : Bk) (few : List Wd) : Bk := last.foldl (rowM known few) []
def toldD (b : Bk) : PD := .tuple (b.map fun e => .tuple [dMp e.1, dRow e.2])
def stepL (few : List Wd) (goal : Mp) : Nat → Bk → Bk → PD
  | 0, known, _ => .tuple [.str "none", toldD known]
  | n + 1, known, last => match getK (nextM known last few) goal with
    | some row => .tuple [.str "least", dRow row, toldD known]
    | none => stepL few goal n (known ++ nextM known last few) (nextM known last few)
def bk0 : Bk := [((0, []), [])]
def leastRowD (few : List Wd) (w : Wd) : PD := if mapOf [w] = (0, []) then .tuple [.str "least", .tuple [], .none] else stepL few (mapOf [w]) 3 bk0 bk0
/-- each row has its map -/
def BkOk (n : Nat) (b : Bk) : Prop := ∀ e ∈ b, okR e.2 ∧ mapOf e.2 = e.1 ∧ e.2.length ≤ n
theorem getK_mem : ∀ {b : Bk} {k : Mp} {r : List Wd}, getK b k = some r → (k, r) ∈ b
  | e :: b, k, r, h => by
    unfold getK at h
    by_cases c : e.1 = k
    · rw [if_pos c] at h
      cases h
      rw [← c]
      exact List.mem_cons_self
    · rw [if_neg c] at h
      exact List.mem_cons_of_mem _ (getK_mem h)
theorem addM_ok {known found : Bk} {e : Mp × List Wd} {w : Wd} {n : Nat} (hf : BkOk (n + 1) found) (he : okR e.2 ∧ mapOf e.2 = e.1 ∧ e.2.length ≤ n) (hw : w.ok) : BkOk (n + 1) (addM known found e w) ∧ (addM known found e w).length ≤ found.length + 1 := by
  unfold addM
  split
  · exact ⟨hf, Nat.le_succ _⟩
  · refine ⟨fun x hx => ?_, by rw [List.length_append]; exact Nat.le_refl _⟩
    rcases List.mem_append.mp hx with hx | hx
    · exact hf x hx
    · rw [List.mem_singleton.mp hx]
      obtain ⟨h1, h2, h3⟩ := he
      refine ⟨h1.append (okR_one hw), ?_, by rw [List.length_append]; show _ + 1 ≤ _; omega⟩
      show mapOf (e.2 ++ [w]) = behind e.1 w
      rw [← behind_ok h1 hw, h2]
      rfl
theorem rowM_ok {known : Bk} {e : Mp × List Wd} {n : Nat} (he : okR e.2 ∧ mapOf e.2 = e.1 ∧ e.2.length ≤ n) : ∀ (few : List Wd) (found : Bk), okR few → BkOk (n + 1) found → BkOk (n + 1) (rowM known few found e) ∧ (rowM known few found e).length ≤ found.length + few.length
  | [], found, _, hf => ⟨hf, Nat.le_refl _⟩
  | w :: few, found, hw, hf => by
    obtain ⟨a, b⟩ := addM_ok (known := known) hf he (hw w List.mem_cons_self)
    obtain ⟨c, d⟩ := rowM_ok he few _ (fun x hx => hw x (List.mem_cons_of_mem _ hx)) a
    refine ⟨c, ?_⟩
    have e2 : rowM known (w :: few) found e = rowM known few (addM known found e w) e := rfl
    rw [e2, List.length_cons]
    omega
theorem nextM_ok {known last : Bk} {few : List Wd} {n : Nat} (hl : BkOk n last) (hw : okR few) : BkOk (n + 1) (nextM known last few) ∧ (nextM known last few).length ≤ last.length * few.length := by
  have : ∀ (last found : Bk), BkOk n last → BkOk (n + 1) found → BkOk (n + 1) (last.foldl (rowM known few) found) ∧ (last.foldl (rowM known few) found).length ≤ found.length + last.length * few.length := by
    intro last
    induction last with
    | nil => exact fun found _ hf => ⟨hf, by simp⟩
    | cons e last ih =>
      intro found hl hf
      obtain ⟨a, b⟩ := rowM_ok (known := known) (hl e List.mem_cons_self) few found hw hf
      obtain ⟨c, d⟩ := ih _ (fun x hx => hl x (List.mem_cons_of_mem _ hx)) a
      refine ⟨c, ?_⟩
      rw [List.foldl_cons, List.length_cons, Nat.add_mul, Nat.one_mul]
      omega
  have h := this last [] hl (fun _ z => nomatch z)
  rw [List.length_nil, Nat.zero_add] at h
  exact h
theorem stepL_ok {few : List Wd} {goal : Mp} (hw : okR few) : ∀ (n m : Nat) (known last : Bk), n + m ≤ 1000 → BkOk m last → (∃ x, stepL few goal n known last = .tuple [.str "none", x]) ∨ ∃ row x, okL row ∧ mapOf row = goal ∧ stepL few goal n known last = .tuple [.str "least", dRow row, x]
  | 0, m, known, last, _, _ => .inl ⟨_, rfl⟩
  | n + 1, m, known, last, hn, hl => by
    obtain ⟨a, b⟩ := nextM_ok (known := known) hl hw
    unfold stepL
    cases e : getK (nextM known last few) goal with
    | some row =>
      obtain ⟨h1, h2, h3⟩ := a _ (getK_mem e)
      have h3' : row.length ≤ m + 1 := h3
      exact .inr ⟨row, _, ⟨h1, by omega⟩, h2, rfl⟩
    | none => exact stepL_ok hw n (m + 1) _ _ (by omega) a
theorem bk0_ok : BkOk 0 bk0 := fun e he => by
  rw [List.mem_singleton.mp he]
  exact ⟨(fun w hw => nomatch hw), rfl, Nat.le_refl _⟩
theorem leastRow_ok {few : List Wd} {w : Wd} (hf : okR few) (hw : w.ok) : (∃ x, leastRowD few w = .tuple [.str "none", x]) ∨ ∃ row x, okL row ∧ mapOf row = mapOf [w] ∧ (leastRowD few w = .tuple [.str "least", dRow row, x]) := by
  unfold leastRowD
  by_cases h : mapOf [w] = (0, [])
  · rw [if_pos h]
    exact .inr ⟨[], .none, ⟨(fun w hw => nomatch hw), by simp⟩, by rw [h]; rfl, rfl⟩
  · rw [if_neg h]
    exact stepL_ok hf 3 0 _ _ (by omega) bk0_ok
def G_lr (ds : List PD) (d : PD) : Prop := ∃ few w, okR few ∧ few.length ≤ 3 ∧ w.ok ∧ ds = [dRow few, dW w, dI 3] ∧ d = leastRowD few w
end Tk
end
section
namespace Tk
open PySem PySem.Spec PyProof.Rows L2
/-! ## the deck -/
def DkOk (H : Hp) (p : Addr) : Prop := ∃ ns : List Int, H p = some (.lst (ns.map V.int)) ∧ 2 ≤ ns.length ∧ ns.length ≤ 65
/-- a def whose first argument is the deck -/
def spK (K : PySem.W.Frag) (A : List PD → Prop) (G : List PD → PD → Prop) : Sp := fun vs H Q _ => ∃ p av us ds, vs = .ref p :: us ∧ (∀ a, av a → H a ≠ none) ∧ av p ∧ DkOk H p ∧ RpA K av H us ds ∧ A ds ∧
  ∀ v d H', G ds d → Kp (some p) H H' → DkOk H' p → Rp K av H' v d → Q v H'
def retK (p : Addr) (G : PD → Prop) : Nd := { nx := fun _ _ => False, rt := fun m d' => m.mu = .deck p ∧ G d' }
theorem kp_dom {H H' : Hp} {p : Addr} {av : Addr → Prop} (k : Kp (some p) H H') (d : DkOk H' p) (h : ∀ a, av a → H a ≠ none) : ∀ a, av a → H' a ≠ none := fun a z q => by
  by_cases e : a = p
  · obtain ⟨ns, h1, _⟩ := d
    rw [e, h1] at q
    cases q
  · cases e2 : H a with
    | none => exact h a z e2
    | some o =>
      rw [k a o e2 (fun w => absurd (Option.some.inj w).symm e)] at q
      cases q
section
variable {X : Cx} {m : Mm} {e a b : Expr} {es : List Expr} {ρ : List Sl} {P : PD → Prop} {pos p p2 : Pos} {k : Nat} {D : Nd} {st : Stmt} {rest body : List Stmt}
theorem ea_cP {Pd : PD → Prop} {Pr : List PD → Prop} (ha : E X m e ρ Pd) (hr : EA X m es ρ Pr) (hs : starEach (e :: es) X.env = (false, eval e X.env) :: starEach es X.env := by rfl) : EA X m (e :: es) ρ (fun ds => ∃ d r, ds = d :: r ∧ Pd d ∧ Pr r) :=
  fun H0 av0 σ H en Q k => wa_of (pa_cons pe_we pa_wa hs) (ha H0 av0 σ H en _ fun v d' H1 k1 o1 r1 p1 =>
    hr H0 av0 σ H1 (en.step k1 o1) _ fun vs ds H2 k2 o2 r2 l2 p2 => k (v :: vs) (d' :: ds) H2 (k1.trans k2) o2 (.cons (r1.kp k2 o1.dkav) r2) (by rw [List.length_cons, List.length_cons, l2]) ⟨d', ds, rfl, p1, p2⟩)
/-- for x in range(n), n of some kind -/
theorem s_forR (j : Nat) {x : Str} {pr : Pos} (I : Nat → Nat → Mm → List Sl → Prop) (hc : X.calm = true) (hN : X.N.Nodup) (hp : PassesOwn (model X.prog X.w) X.A X.env X.xe) (hm : X.mg "range" = none) (hi : E X m a ρ P) (hP : ∀ d, P d → ∃ n : Nat, d = .int n ∧ n ≤ 1000000 ∧ I n 0 m ρ)
    (hs : ∀ n i m' ρ', i < n → I n i m' ρ' → SS X body m' (ρ'.set j (.im (.int (i : Nat)))) { D with nx := I n (i + 1), ct := I n (i + 1), bk := D.nx }) (hd : ∀ n m' ρ', I n n m' ρ' → D.nx m' ρ')
    (hj : X.N[j]? = some x := by rfl) (hx : Loc X.env.scope x := by first | exact Or.inl rfl | exact Or.inr rfl) (hf : X.fn x = true ∨ X.env.scope.names.lookup x = some .local := by first | exact .inl rfl | exact .inr rfl) (hgR : Gl X "range" := by rfl) (hst : starEach [a] X.env = [(false, eval a X.env)] := by rfl)
    (hfo : ∀ x, foldedSetIterable (.Call (.Name "range" pr) [a] [] p) X.env x = pure x := by intro _; rfl) : S X (.For (.Name x p2) (.Call (.Name "range" pr) [a] [] p) body [] pos) m ρ D := fun H0 av0 σ H en EE k =>
  ws_of (ps_for hp hc (pi_range1 hgR hm (pa_cons pe_we pa_nil hst) hst) (pg_name hN hj hx hf) pss_ws hfo) (hi H0 av0 σ H en _ fun v d H1 k1 o1 r1 p1 => by
    obtain ⟨n, rfl, hn, hI⟩ := hP d p1
    cases r1
    refine ⟨n, rfl, by omega, by omega, ?_⟩
    rw [Int.toNat_natCast]
    refine for_range (lo := 0) (n := n) (fun i σ' H' => Lp X H0 av0 H1 (I n i) σ' H') ⟨m, ρ, hI, en.step k1 o1, Kt.refl _ _⟩ (fun i σ' H' hi' z => ?_) (fun σ' H' z => ?_)
    · obtain ⟨m', ρ', q1, en', kt⟩ := z
      rw [Int.zero_add]
      exact hs n i m' ρ' hi' q1 H0 av0 _ H' (en'.set (.int _)) _ (((k.from k1.kt).loop (I n (i + 1))).from' kt)
    · obtain ⟨m', ρ', q1, en', kt⟩ := z
      exact k.nx m' ρ' σ' H' (hd n m' ρ' q1) en' (k1.kt.trans kt))
/-- a call with the deck -/
theorem k_call {CX : CXT} {n j : Nat} {ps : List Str} {A : List PD → Prop} {G : List PD → PD → Prop} {x y : Str} {ds : List PD} {q : Addr} (i : Nat) (xe : XK) (C : CalD X.prog X.w X.K X.mg X.base CX n x ps [] (spK X.K A G)) (hr : Room j X.A) (hnj : n ≤ j) (hx : Passes CX X xe) (hmu : m.mu = .deck q)
    (ha : EA X m es ρ (· = ds)) (hA : A ds) (hρ : ρ[i]? = some .mu := by rfl) (hN : X.N[i]? = some y := by rfl) (hv : Vis X.env.scope y := by first | exact Or.inl rfl | exact Or.inr (Or.inl rfl) | exact Or.inr (Or.inr rfl)) (hd : (y == ("__debug__" : Str)) = false := by decide) (hcd : (y == ("__classdict__" : Str)) = false := by decide)
    (hg : Gl X x := by rfl) (hdb : (x == ("__debug__" : Str)) = false := by decide) (he : starEach (.Name y p2 :: es) X.env = (false, eval (.Name y p2) X.env) :: starEach es X.env := by rfl) (hpl : (backTo pos (starEach es X.env)).any (·.1) = false := by rfl) :
    E X m (.Call (.Name x p) (.Name y p2 :: es) [] pos) ρ (G ds) := fun H0 av0 σ H en Q k => by
  obtain ⟨f, fd, us, F, hm, hk, hb, hu⟩ := C.ex
  cases hu
  obtain ⟨o, h1, h2⟩ := en.at_ i _ hρ
  obtain ⟨av, mu⟩ := m
  cases hmu
  have e2 : o = some (.ref q) := h2
  refine we_of (pe_call F (hr.mono hnj) hg hm hk hb .nil hx (pa_cons (pe_var hN hv hd hcd) pa_wa he) hdb he hpl) ?_
  refine ⟨.ref q, by rw [h1, e2], ha H0 av0 σ H en _ fun vs ds' H1 k1 o1 r1 l1 p1 => ?_⟩
  subst p1
  rw [List.append_nil]
  obtain ⟨a1, dk⟩ := o1.mu
  exact ⟨q, av, vs, ds', rfl, o1.dom, a1, dk, r1, hA, fun v d H' g s dk' r => k v d H' (k1.trans s) ⟨kp_dom s dk' o1.dom, a1, dk'⟩ r g⟩
end
theorem start_envK {K : PySem.W.Frag} {H : Hp} {av : Addr → Prop} {x : Str} {N : List Str} {vs : List V} {ds : List PD} {p : Addr} (hd : ∀ a, av a → H a ≠ none) (hp : av p) (dk : DkOk H p) (r : RpA K av H vs ds) : Env' K H av ⟨av, .deck p⟩ (L2.start (x :: N) (.ref p :: vs)) H (.mu :: startP N ds) := by
  have en := start_env (N := N) hd r
  have e1 : L2.start (x :: N) (.ref p :: vs) = some (.ref p) :: L2.start N vs := by
    unfold L2.start
    rw [List.map_cons, List.length_cons, List.length_cons, Nat.add_sub_add_right]
    rfl
  rw [e1]
  refine ⟨Kp.refl _ _, fun _ z => z, hd, ⟨hd, hp, dk⟩, by rw [List.length_cons, List.length_cons, en.len], fun i s q => ?_⟩
  match i with
  | 0 =>
    cases q
    exact ⟨_, rfl, rfl⟩
  | i + 1 =>
    obtain ⟨o, h1, h2⟩ := en.at_ i s q
    refine ⟨o, h1, ?_⟩
    cases s with
    | no => trivial
    | im d => exact h2
    | mu => exact h2.elim
section
variable {P : Program} {w : World} {K : PySem.W.Frag} {mg : Str → Option Value} {base : Heap}
theorem fn_okK {x qual y : Str} {params : Arguments} {body : List Stmt} {scope : Scope} {dvs : List V} {kws : List (Str × V)} {f : Addr} {fd : FuncData} {N ps : List Str} {k : Nat} {Ar : List PD → Prop} {G : List PD → PD → Prop} (F : FunD K x qual params body scope dvs kws f fd) (S : FnScope (y :: N) ps scope)
    (hl : ∀ ds, Ar ds → ds.length + 1 = ps.length)
    (h : ∀ (cdv : Value) (A : Around) (outer : List Env) (s : Shared) (H : Hp) (E : XK) (av : Addr → Prop) (p : Addr) (ds : List PD), Room k (A.deeper (envOfC qual scope s.heap.objs.size f cdv)) → Ar ds → SS (cxOf CX0 P w K mg base (y :: N) qual scope f cdv A outer s H E).nox body ⟨av, .deck p⟩ (.mu :: startP N ds) (retK p (G ds))) :
    FnOk P w K mg base CX0 (k + 1) f fd ps (spK K Ar G) := by
  refine F.ok S (fun vs H Q E hs => ?_) (fun cdv A outer s H vs Q E hr hs => ?_)
  · obtain ⟨p, av, us, ds, rfl, _, _, _, r, hA, _⟩ := hs
    rw [List.length_cons, r.length]
    exact hl ds hA
  · obtain ⟨p, av, us, ds, rfl, hd, hp, dk, r, hA, hQ⟩ := hs
    refine ⟨WSs (cxOf CX0 P w K mg base (y :: N) qual scope f cdv A outer s H E).nox body, PSs.nox pss_ws, ?_⟩
    refine h cdv A outer s H E av p ds hr hA H av _ H (start_envK hd hp dk r) _ ⟨fun m ρ σ H' e en _ => e.elim, fun _ _ _ _ z => z.elim, fun _ _ _ _ z => z.elim, fun m v d' H' e k1 o1 sub r1 => ?_, fun _ z => z.elim⟩
    obtain ⟨em, g⟩ : m.mu = .deck p ∧ G ds d' := e
    obtain ⟨mav, mu⟩ := m
    cases em
    exact hQ v d' H' g k1 o1.mu.2 (r1.anti fun a z _ => sub a z)
end
end Tk
end
section
namespace Tk
open PySem PySem.Spec PyProof.Rows L2
def G_mixed (ds : List PD) (d : PD) : Prop := ∃ c k : Int, ds = [.int c, .int k] ∧ d = .int (((((c % 2147483647 * 48271 + k * 69621 + 7919) % 2147483629 * ((c % 2147483647 * 48271 + k * 69621 + 7919) % 2147483629) + 16807 * ((c % 2147483647 * 48271 + k * 69621 + 7919) % 2147483629) + k) % 2147483587 % 65536 * 32749 +
  ((c % 2147483647 * 48271 + k * 69621 + 7919) % 2147483629 * ((c % 2147483647 * 48271 + k * 69621 + 7919) % 2147483629) + 16807 * ((c % 2147483647 * 48271 + k * 69621 + 7919) % 2147483629) + k) % 2147483587 / 65536) * 39373) % 2147483563)
def A_draw (ds : List PD) : Prop := ∃ n : Nat, 1 ≤ n ∧ n ≤ 1000000 ∧ ds = [dI n]
def G_draw (ds : List PD) (d : PD) : Prop := ∃ n k : Nat, ds = [dI n] ∧ k < n ∧ d = dI k
theorem mod_nat (i : Int) {n : Nat} (h : 1 ≤ n) : ∃ k : Nat, k < n ∧ i % (n : Int) = (k : Int) := by
  refine ⟨(i % (n : Int)).toNat, ?_, ?_⟩
  · have := Int.emod_lt_of_pos i (show (0 : Int) < n by omega)
    have := Int.emod_nonneg i (show (n : Int) ≠ 0 by omega)
    omega
  · have := Int.emod_nonneg i (show (n : Int) ≠ 0 by omega)
    omega
section
variable {P : Program} {wd : World} {K : PySem.W.Frag} {mg : Str → Option Value} {base : Heap}
theorem ok_L_mixed {f : Addr} {fd : FuncData} (F : FnP K "_law_mixed" sL_mixed [] f fd) : FnOk P wd K mg base CX0 1 f fd pL_mixed (spD K G_mixed) := by
  refine fn_okD F cL_mixed (fun ds d h => ?_) (fun cdv A outer s H E av ds d hr hG => ?_)
  · obtain ⟨_, _, rfl, _⟩ := h
    rfl
  · obtain ⟨c, k, rfl, rfl⟩ := hG
    have hnd := cL_mixed.nd
    have b0 : ∀ a : Int, CMul a 48271 := fun a => .inr (by decide)
    refine ss_cons (s_set 2 hnd (e_mod (by decide) (e_add (e_add (e_mul (.inr (by decide)) (e_mod (by decide) (e_var 0) e_int) e_int) (e_mul (.inr (by decide)) (e_var 1) e_int)) e_int) e_int) ?_)
    have hb : 0 ≤ (c % 2147483647 * 48271 + k * 69621 + 7919) % 2147483629 ∧ (c % 2147483647 * 48271 + k * 69621 + 7919) % 2147483629 < 2147483629 := ⟨Int.emod_nonneg _ (by decide), Int.emod_lt_of_pos _ (by decide)⟩
    generalize (c % 2147483647 * 48271 + k * 69621 + 7919) % 2147483629 = n1 at hb ⊢
    refine ss_cons (s_set 2 hnd (e_mod (by decide) (e_add (e_add (e_mul (i := n1) (j := n1) (.inl ⟨by omega, by omega⟩) (e_var 2) (e_var 2)) (e_mul (i := 16807) (.inl (by decide)) e_int (e_var 2))) (e_var 1)) e_int) ?_)
    generalize (n1 * n1 + 16807 * n1 + k) % 2147483587 = n2
    exact ss_one (s_ret (e_mod (by decide) (e_mul (.inr (by decide)) (e_add (e_mul (.inr (by decide)) (e_mod (by decide) (e_var 2) e_int) e_int) (e_fdiv ⟨by decide, by decide⟩ (e_var 2) e_int)) e_int) e_int) ⟨rfl, rfl⟩)
end
end Tk
end
section
namespace Tk
open PySem PySem.Spec PyProof.Rows L2
theorem dk_env {K : PySem.W.Frag} {H : Hp} {p : Addr} {ns : List Int} {n : Int} {o : Option V} {s : Sl} (hp : H p = some (.lst (ns.map V.int))) (hs : SlOk K ⟨fun _ => False, .no⟩ H o s) :
    Env' K H (fun _ => False) ⟨fun _ => False, .no⟩ [some (.ref p), some (.int n), o] H [.im (.list (ns.map .int)), .im (.int n), s] := by
  refine ⟨Kp.refl _ _, fun _ z => z, fun _ z => z.elim, ⟨fun _ z => z.elim, trivial⟩, rfl, fun i t q => ?_⟩
  match i with
  | 0 => cases q; exact ⟨_, rfl, _, rfl, .lst hp (fun z => z) (RpA.ofInts ns)⟩
  | 1 => cases q; exact ⟨_, rfl, _, rfl, .int n⟩
  | 2 => cases q; exact ⟨_, rfl, hs⟩
  | i + 3 => simp at q
theorem kp_upd {H : Hp} {p : Addr} {xs ys : List V} (h : H p = some (.lst xs)) : Kp (some p) H (upd H p (.lst ys)) := fun a o e z => by
  by_cases w : a = p
  · rw [w] at e
    rw [h] at e
    cases e
    exact absurd rfl (z (by rw [w]) xs)
  · rw [upd_ne w]
    exact e
section
variable {P : Program} {wd : World} {K : PySem.W.Frag} {mg : Str → Option Value} {base : Heap}
theorem ok_L_draw {f : Addr} {fd : FuncData} (B : Bt mg) (MX : CalD P wd K mg base CX0 1 "_law_mixed" pL_mixed [] (spD K G_mixed)) (F : FnP K "_law_draw" sL_draw [] f fd) : FnOk P wd K mg base CX0 2 f fd pL_draw (spK K A_draw G_draw) := by
  refine F.ok cL_draw (fun vs H Q E hs => ?_) (fun cdv A outer s H vs Q E hr hs => ?_)
  · obtain ⟨p, av, us, ds, rfl, _, _, _, r, ⟨n, _, _, rfl⟩, _⟩ := hs
    rw [List.length_cons, r.length]
    rfl
  obtain ⟨p, av, us, ds, rfl, hd, hap, ⟨ns, hp, hn1, hn2⟩, ru, ⟨n, h1, h2, rfl⟩, hQ⟩ := hs
  obtain rfl : us = [.int n] := by
    cases ru with
    | cons r1 r2 =>
      cases r1
      cases r2
      rfl
  refine ⟨WSs (cxOf CX0 P wd K mg base NL_draw "_law_draw" (defScope sL_draw) f cdv A outer s H E).nox (defBody sL_draw), PSs.nox pss_ws, ?_⟩
  have hnd := cL_draw.nd
  show WSs _ _ _ [some (.ref p), some (.int n), none] H
  -- what any return with a number below n does
  have ret : ∀ (H1 : Hp) (ns' : List Int), H1 p = some (.lst (ns'.map V.int)) → Kp (some p) H H1 → 2 ≤ ns'.length → ns'.length ≤ 65 → ∀ (o : Option V) (sl : Sl) (body : List Stmt), SlOk K ⟨fun _ => False, .no⟩ H1 o sl →
      SS (cxOf CX0 P wd K mg base NL_draw "_law_draw" (defScope sL_draw) f cdv A outer s H E).nox body ⟨fun _ => False, .no⟩ [.im (.list (ns'.map .int)), .im (.int n), sl] { nx := fun _ _ => False, rt := fun m d => m.dk = none ∧ ∃ x : Int, d = .int (x % (n : Int)) } →
      ∀ nx bk ct, WSs (cxOf CX0 P wd K mg base NL_draw "_law_draw" (defScope sL_draw) f cdv A outer s H E).nox body { nx := nx, rt := Q, bk := bk, ct := ct } [some (.ref p), some (.int n), o] H1 := by
    intro H1 ns' hp1 k1 l1 l2 o sl body hs hb nx bk ct
    refine hb H1 _ _ H1 (dk_env hp1 hs) _ ⟨fun m ρ σ H' e en _ => e.elim, fun _ _ _ _ z => z.elim, fun _ _ _ _ z => z.elim, fun m v d' H' e k2 o2 sub r1 => ?_, fun _ z => z.elim⟩
    obtain ⟨em, x, rfl⟩ := e
    rw [em] at k2
    have sm := k2.toSame
    obtain ⟨j, hj, ej⟩ := mod_nat x h1
    rw [ej] at r1
    cases r1
    exact hQ _ (dI j) H' ⟨n, j, rfl, hj, rfl⟩ (k1.trans (Kp.same sm)) ⟨ns', sm _ _ hp1, l1, l2⟩ (.int _)
  obtain ⟨c0, c1, cs, rfl⟩ : ∃ c0 c1 cs, ns = c0 :: c1 :: cs := by
    match ns, hn1 with
    | c0 :: c1 :: cs, _ => exact ⟨c0, c1, cs, rfl⟩
  have hmn : (0 : Int) < n := by omega
  -- deck[0] = deck[0] + 1
  refine wss_of (pss_cons (ps_asg pe_we (pg_sub (pe_var (i := 0) rfl (.inl rfl)) pe_int set_list)) pss_ws) ?_
  refine (e_add (e_ixL (e_var 0) e_int (d := .int c0) (atI_nat (j := 0) rfl)) e_int) H _ _ H (dk_env hp (s := .no) trivial) _ fun v d H1 k1 o1 r1 p1 => ?_
  subst p1
  cases r1
  have hp1 := k1.toSame _ _ hp
  refine ⟨.ref p, rfl, p, _, 0, 0, rfl, rfl, hp1, (by unfold ixN; rw [List.length_map, List.length_cons, if_pos (by decide), if_pos (by omega)]; rfl), ?_⟩
  have hp2 : (upd H1 p (.lst ((V.int c0 :: V.int c1 :: cs.map V.int).set 0 (.int (c0 + 1))))) p = some (.lst (((c0 + 1) :: c1 :: cs).map V.int)) := upd_same
  have k2 := (Kp.same (k := some p) k1.toSame).trans (kp_upd (ys := (V.int c0 :: V.int c1 :: cs.map V.int).set 0 (.int (c0 + 1))) hp1)
  show WSs _ _ _ _ (upd H1 p (.lst ((V.int c0 :: V.int c1 :: cs.map V.int).set 0 (.int (c0 + 1)))))
  generalize (upd H1 p (.lst ((V.int c0 :: V.int c1 :: cs.map V.int).set 0 (.int (c0 + 1))))) = H2 at hp2 k2 ⊢
  clear hp1 k1 o1
  -- len(deck) < 3
  refine wss_of (pss_cons (ps_if pt_wt pss_ws pss_nil) pss_ws) ?_
  refine (t_lt (e_len (n := cs.length + 2) B.len (e_var 0) (by show some (List.length (List.map _ ((c0 + 1) :: c1 :: cs))) = _; rw [List.length_map]; rfl)) e_int) H2 _ _ H2 (dk_env hp2 (s := .no) trivial) _ fun H3 k3 o3 => ?_
  have hp3 := k3.toSame _ _ hp2
  have k3' := k2.trans (Kp.same (k := some p) k3.toSame)
  clear hp2 k2 k3 o3
  by_cases hlt : ((cs.length + 2 : Nat) : Int) < 3
  · rw [decide_eq_true hlt]
    refine iteT (ret H3 _ hp3 k3' hn1 hn2 none .no _ trivial ?_ _ _ _)
    exact ss_one (s_ret (e_mod hmn (c_call E0 MX hr (by decide) pass0 (ea_c (e_ixL (e_var 0) e_int (d := .int c1) (atI_nat (j := 1) rfl)) (ea_c (e_ixL (e_var 0) e_int (d := .int (c0 + 1)) (atI_nat (j := 0) rfl)) ea_nil)) ⟨c1, c0 + 1, rfl, rfl⟩) (e_var 1)) ⟨rfl, _, rfl⟩)
  rw [decide_eq_false hlt]
  refine iteF ?_
  -- cell = deck.pop()
  obtain ⟨es, z, rfl⟩ : ∃ es z, cs = es ++ [z] := by
    rcases List.eq_nil_or_concat cs with h | ⟨es, z, h⟩
    · rw [h] at hlt
      exact absurd (by decide) hlt
    · exact ⟨es, z, by rw [h]; simp⟩
  refine wss_of (pss_cons (ps_set (i := 2) hnd rfl (.inl rfl) (pe_bm0 PySem.F.plainAttrs_list PySem.F.slot_list_pop (by show builtinType _ = _; rw [builtinType_eq_fast]; kernel_rfl) mt_pop (pe_var (i := 0) rfl (.inl rfl)))) pss_ws) ?_
  refine ⟨.ref p, rfl, .inl ⟨rfl, _, SqL.of hp3⟩, p, _, .int z, rfl, rfl, hp3, ?_, ?_⟩
  · rw [List.length_map, List.getElem?_map]
    have : ((c0 + 1) :: c1 :: (es ++ [z]))[((c0 + 1) :: c1 :: (es ++ [z])).length - 1]? = some z := by
      rw [← List.getLast?_eq_getElem?]
      show (((c0 + 1) :: c1 :: es) ++ [z]).getLast? = some z
      rw [List.getLast?_append]
      rfl
    rw [this]
    rfl
  have ed : (List.map V.int ((c0 + 1) :: c1 :: (es ++ [z]))).dropLast = ((c0 + 1) :: c1 :: es).map V.int := by
    rw [← List.map_dropLast]
    congr 1
    show (((c0 + 1) :: c1 :: es) ++ [z]).dropLast = _
    rw [List.dropLast_concat]
  rw [ed]
  have hp4 : (upd H3 p (.lst (((c0 + 1) :: c1 :: es).map V.int))) p = some (.lst (((c0 + 1) :: c1 :: es).map V.int)) := upd_same
  have k4 := k3'.trans (kp_upd (ys := ((c0 + 1) :: c1 :: es).map V.int) hp3)
  generalize (upd H3 p (.lst (((c0 + 1) :: c1 :: es).map V.int))) = H4 at hp4 k4 ⊢
  clear hp3 k3' ed
  show WSs _ _ _ [some (.ref p), some (.int n), some (.int z)] _
  have hl4 : ((c0 + 1) :: c1 :: es).length ≤ 64 := by
    simp at hn2 ⊢
    omega
  -- cell < 10 ** 18
  refine wss_of (pss_cons (ps_if pt_wt pss_ws pss_nil) pss_ws) ?_
  refine (t_lt (i := z) (j := 1000000000000000000) (e_var 2) (e_bin (x := .int 10) (y := .int 18) op_pow e_int e_int (r2_I (g := fun i j => .int (i ^ j.toNat)) ⟨by decide, by decide, by decide⟩ fun _ _ => .int 1000000000000000000))) H4 _ _ H4 (dk_env hp4 (o := some (.int z)) (s := .im (.int z)) ⟨_, rfl, .int z⟩) _ fun H5 k5 o5 => ?_
  have hp5 := k5.toSame _ _ hp4
  have k5' := k4.trans (Kp.same (k := some p) k5.toSame)
  clear hp4 k4 k5 o5
  by_cases hlt2 : z < 1000000000000000000
  · rw [decide_eq_true hlt2]
    refine iteT (ret H5 _ hp5 k5' (by simp) (by omega) (some (.int z)) (.im (.int z)) _ ⟨_, rfl, .int z⟩ ?_ _ _ _)
    exact ss_one (s_ret (e_mod hmn (c_call E0 MX hr (by decide) pass0 (ea_c (e_var 2) (ea_c (e_ixL (e_var 0) e_int (d := .int (c0 + 1)) (atI_nat (j := 0) rfl)) ea_nil)) ⟨z, c0 + 1, rfl, rfl⟩) (e_var 1)) ⟨rfl, _, rfl⟩)
  rw [decide_eq_false hlt2]
  refine iteF ?_
  -- deck.append(cell // most)
  refine wss_of (pss_cons (ps_expr (pe_bm PySem.F.plainAttrs_list PySem.F.slot_list_append PySem.F.type_list_append mt_append (pe_var (i := 0) rfl (.inl rfl)) (pa_cons pe_we pa_nil))) pss_ws) ?_
  refine ⟨.ref p, rfl, .inl ⟨rfl, _, SqL.of hp5⟩, ?_⟩
  refine (e_fdiv (i := z) (j := n) ⟨hmn, by omega⟩ (e_var 2) (e_var 1)) H5 _ _ H5 (dk_env hp5 (o := some (.int z)) (s := .im (.int z)) ⟨_, rfl, .int z⟩) _ fun v d H6 k6 o6 r6 p6 => ?_
  subst p6
  cases r6
  have hp6 := k6.toSame _ _ hp5
  refine ⟨p, _, _, rfl, rfl, hp6, Nat.lt_of_lt_of_le (by rw [List.length_map]; exact Nat.lt_succ_of_le hl4) (sz_of (by decide)), ?_⟩
  have ed : List.map V.int ((c0 + 1) :: c1 :: es) ++ [V.int (z / (n : Int))] = (((c0 + 1) :: c1 :: es) ++ [z / (n : Int)]).map V.int := by rw [List.map_append]; rfl
  rw [ed]
  refine ret _ _ upd_same ((k5'.trans (Kp.same (k := some p) k6.toSame)).trans (kp_upd hp6)) (by simp) (by rw [List.length_append]; simp at hl4 ⊢; omega) (some (.int z)) (.im (.int z)) _ ⟨_, rfl, .int z⟩ ?_ _ _ _
  exact ss_one (s_ret (e_mod hmn (e_var 2) (e_var 1)) ⟨rfl, _, rfl⟩)
end
end Tk
end
section
namespace Tk
open PySem PySem.Spec PyProof.Rows L2
def A_shuffle (ds : List PD) : Prop := ∃ most long : Nat, most ≤ 8 ∧ long ≤ 12 ∧ ds = [dI most, dI long]
def G_word (ds : List PD) (d : PD) : Prop := ∃ w : Wd, w.ok ∧ d = dW w
theorem R2D.mono {X : Cx} {m : Mm} {r : R2} {x y : PD} {P P' : PD → Prop} (h : R2D X m r x y P) (q : ∀ d, P d → P' d) : R2D X m r x y P' := fun H0 vx vy H o rx ry Q k => h H0 vx vy H o rx ry Q fun v d H' k1 o1 r1 p1 => k v d H' k1 o1 r1 (q d p1)
theorem ltx_ok : ∀ n, n ≤ 8 → PyData.strOk (ltx n) = true := by
  have h : ∀ n, n < 9 → PyData.strOk (ltx n) = true := by decide +kernel
  exact fun n hn => h n (by omega)
theorem ltx_nil {n : Nat} : ltx n = "" ↔ n = 0 := by
  constructor
  · intro h
    have := ltx_len n
    rw [h] at this
    exact this.symm
  · rintro rfl
    rfl
theorem ltx_at {n k : Nat} (h : k < n) : atI (ltx n).cps.toList ((k : Nat) : Int) = some (k + 97) := by
  refine atI_nat ?_
  show (lts n)[k]? = _
  unfold lts
  rw [List.getElem?_map, List.getElem?_range h]
  rfl
theorem ttx_snoc (l : List Nat) (k : Nat) : ttx l ++ (⟨#[k + 97]⟩ : Str) = ttx (l ++ [k]) := by
  apply toList_inj
  rw [Str.cps_append, Array.toList_append]
  show tls l ++ [k + 97] = tls (l ++ [k])
  unfold tls
  rw [List.map_append]
  rfl
section
variable {X : Cx} {m : Mm} {e : Expr} {ρ : List Sl} {pos p p2 : Pos}
theorem k_draw {j : Nat} {y : Str} {q : Addr} (i : Nat) (n : Nat) (C : CalD X.prog X.w X.K X.mg X.base CX0 2 "_law_draw" pL_draw [] (spK X.K A_draw G_draw)) (hr : Room j X.A) (hnj : 2 ≤ j) (hmu : m.mu = .deck q) (h1 : 1 ≤ n) (h2 : n ≤ 1000000)
    (ha : E X m e ρ (· = dI n)) (hρ : ρ[i]? = some .mu := by rfl) (hN : X.N[i]? = some y := by rfl) (hv : Vis X.env.scope y := by first | exact Or.inl rfl | exact Or.inr (Or.inl rfl) | exact Or.inr (Or.inr rfl)) (hd : (y == ("__debug__" : Str)) = false := by decide) (hcd : (y == ("__classdict__" : Str)) = false := by decide)
    (hg : Gl X "_law_draw" := by rfl) (he : starEach [.Name y p2, e] X.env = (false, eval (.Name y p2) X.env) :: starEach [e] X.env := by rfl) (he2 : starEach [e] X.env = (false, eval e X.env) :: starEach [] X.env := by rfl) (hpl : (backTo pos (starEach [e] X.env)).any (·.1) = false := by rfl) :
    E X m (.Call (.Name "_law_draw" p) [.Name y p2, e] [] pos) ρ (fun d => ∃ k : Nat, k < n ∧ d = dI k) :=
  (k_call i E0 C hr hnj pass0 hmu (ea_c ha ea_nil he2) ⟨n, h1, h2, rfl⟩ hρ hN hv hd hcd hg (by decide) he hpl).mono fun d ⟨n', k, e, hk, ed⟩ => by
    injection e with e _
    injection e with e
    exact ⟨k, by omega, ed⟩
end
section
variable {P : Program} {wd : World} {K : PySem.W.Frag} {mg : Str → Option Value} {base : Heap}
theorem ok_L_shuffle {f : Addr} {fd : FuncData} (B : Bt mg) (DR : CalD P wd K mg base CX0 2 "_law_draw" pL_draw [] (spK K A_draw G_draw)) (F : FnP K "_law_shuffle" sL_shuffle [] f fd) : FnOk P wd K mg base CX0 3 f fd pL_shuffle (spK K A_shuffle G_word) := by
  refine fn_okK F cL_shuffle (fun ds h => ?_) (fun cdv A outer s H E av p ds hr hA => ?_)
  · obtain ⟨_, _, _, _, rfl⟩ := h
    rfl
  obtain ⟨most, long, hm, hl, rfl⟩ := hA
  have hnd := cL_shuffle.nd
  refine ss_cons (s_setP (P := fun d => ∃ n, n ≤ 8 ∧ d = .str (ltx n)) 3 hnd (e_slSP (Rl := (· = none)) (Rh := fun o => ∃ n : Nat, n ≤ 8 ∧ o = some (n : Int)) e_str (by decide) o_none (o_someP (k_draw 0 (most + 1) DR hr (by decide) rfl (by omega) (by omega) ((e_add (e_var 1) e_int).is (by congr 1))) ?_) ?_) ?_)
  · rintro d ⟨k, hk, rfl⟩
    exact ⟨_, rfl, k, by omega, rfl⟩
  · rintro l h rfl ⟨n, hn, rfl⟩
    exact ⟨n, hn, congrArg PyData.str (abc_cut n hn)⟩
  rintro d ⟨n, hn, rfl⟩
  refine ss_cons (s_set 4 hnd (e_str.is (d' := .str (ttx [])) rfl) ?_)
  have pl : plen (.str (ltx n)) = some n := by
    show (if (ltx n).length ≤ _ then some (ltx n).length else none) = _
    rw [ltx_len, if_pos (by omega)]
  refine ss_cons (s_forR (P := fun d => ∃ j : Nat, j ≤ 12 ∧ (n = 0 → j = 0) ∧ d = dI j) 5 (fun N i m' ρ' => N ≤ 12 ∧ (n = 0 → N = 0) ∧ ∃ l s5, l.length = i ∧ (∀ k ∈ l, k < n) ∧ m' = ⟨av, .deck p⟩ ∧ ρ' = [.mu, .im (dI most), .im (dI long), .im (.str (ltx n)), .im (.str (ttx l)), s5]) rfl hnd PassesOwn.never B.range
    (e_binP (Pa := fun d => ∃ k : Nat, k < long + 1 ∧ d = dI k) (Pb := fun _ y => y = .int (if !decide (n = 0) then 1 else 0)) op_mul (k_draw 0 (long + 1) DR hr (by decide) rfl (by omega) (by omega) ((e_add (e_var 2) e_int).is (by congr 1)))
      (fun _ _ => e_intB B.int (e_ne (x := .str (ltx n)) (c := decide (n = 0)) (n := 0) (n' := 0) hr (e_var 3) e_str ?_ (ltx_ok n hn) (show PyData.strOk "" = true by decide +kernel))) ?_) ?_ ?_ ?_)
  · rw [decide_eq_true_iff, ← ltx_nil]
    exact ⟨fun h => by injection h, fun h => by rw [h]⟩
  · rintro x y ⟨k, hk, rfl⟩ rfl
    refine (r2_I (z := .int ((k : Int) * (if !decide (n = 0) then 1 else 0))) (.inl ⟨by omega, by omega⟩) fun _ _ => .int _).mono ?_
    rintro d rfl
    by_cases h0 : n = 0
    · exact ⟨0, by omega, fun _ => rfl, by rw [h0]; show PyData.int ((k : Int) * 0) = _; rw [Int.mul_zero]; rfl⟩
    · exact ⟨k, by omega, fun z => absurd z h0, by rw [decide_eq_false h0]; show PyData.int ((k : Int) * 1) = _; rw [Int.mul_one]⟩
  · rintro d ⟨j, hj, h0, rfl⟩
    exact ⟨j, rfl, by omega, hj, h0, [], .no, rfl, (fun _ z => nomatch z), rfl, rfl⟩
  · rintro N i m' ρ' hi ⟨hN, h0, l, s5, hll, hlk, rfl, rfl⟩
    have hn1 : 1 ≤ n := by
      by_cases z : n = 0
      · have := h0 z
        omega
      · omega
    refine ss_one (s_setP (P := fun d => ∃ k, k < n ∧ d = .str (ttx (l ++ [k]))) 4 hnd (e_binP (Pa := (· = .str (ttx l))) (Pb := fun _ y => ∃ k, k < n ∧ y = .str ⟨#[k + 97]⟩) op_add_str (e_var 4) (fun _ _ => e_ixSP (e_var 3) (k_draw 0 n DR hr (by decide) rfl hn1 (by omega) (e_len B.len (e_var 3) pl)) (by rw [ltx_len]; omega) ?_) ?_) ?_)
    · rintro y ⟨k, hk, rfl⟩
      exact ⟨k, k + 97, rfl, ltx_at hk, k, hk, rfl⟩
    · rintro x y rfl ⟨k, hk, rfl⟩
      refine (r2_addS (by rw [ttx_len]; show l.length + 1 ≤ _; omega)).mono ?_
      rintro d rfl
      exact ⟨k, hk, by rw [ttx_snoc]⟩
    · rintro d ⟨k, hk, rfl⟩
      refine ⟨hN, h0, l ++ [k], _, by rw [List.length_append, hll]; rfl, fun z hz => ?_, rfl, rfl⟩
      rcases List.mem_append.mp hz with hz | hz
      · exact hlk z hz
      · rw [List.mem_singleton.mp hz]
        exact hk
  · rintro N m' ρ' ⟨hN, h0, l, s5, hll, hlk, rfl, rfl⟩
    refine ss_one (s_ret (e_catS (e_catS (e_var 3) e_str (by rw [ltx_len]; show n + 1 ≤ _; omega)) (e_var 4) (by rw [Str.length_append, ltx_len, ttx_len]; show n + 1 + l.length ≤ _; omega)) ⟨rfl, ⟨n, l⟩, ⟨hn, by show l.length ≤ 12; omega, hlk⟩, ?_⟩)
    exact congrArg PyData.str (wtx_glue ⟨n, l⟩)
end
end Tk
end
section
namespace Tk
open PySem PySem.Spec PyProof.Rows L2
def menu : List Wd := [⟨1, [0, 0]⟩, ⟨1, []⟩, ⟨2, [1, 0]⟩, ⟨3, [1, 2, 0]⟩, ⟨2, [0, 1, 0]⟩, ⟨0, []⟩, ⟨2, [1]⟩, ⟨3, [2, 0, 1]⟩, ⟨1, [0]⟩, ⟨2, [0, 1]⟩, ⟨3, [0, 2, 1]⟩, ⟨4, [3, 0, 1, 2]⟩]
theorem menu_ok : ∀ w ∈ menu, w.ok := by
  intro w h
  simp only [menu, List.mem_cons, List.not_mem_nil, or_false] at h
  rcases h with rfl | rfl | rfl | rfl | rfl | rfl | rfl | rfl | rfl | rfl | rfl | rfl <;> exact ⟨by decide, by decide, by decide⟩
section
variable {P : Program} {wd : World} {K : PySem.W.Frag} {mg : Str → Option Value} {base : Heap}
theorem ok_L_word {f : Addr} {fd : FuncData} (B : Bt mg) (DR : CalD P wd K mg base CX0 2 "_law_draw" pL_draw [] (spK K A_draw G_draw)) (SH : CalD P wd K mg base CX0 3 "_law_shuffle" pL_shuffle [] (spK K A_shuffle G_word)) (F : FnP K "_law_word" sL_word [] f fd) : FnOk P wd K mg base CX0 4 f fd pL_word (spK K (· = []) G_word) := by
  refine fn_okK F cL_word (fun ds h => ?_) (fun cdv A outer s H E av p ds hr hA => ?_)
  · rw [h]
    rfl
  subst hA
  have hnd := cL_word.nd
  refine ss_cons (s_set 1 hnd (el_lst (ea_c e_str (ea_c e_str (ea_c e_str (ea_c e_str (ea_c e_str (ea_c e_str (ea_c e_str (ea_c e_str (ea_c e_str (ea_c e_str (ea_c e_str (ea_c e_str ea_nil))))))))))))).im ?_)
  refine ss_cons (s_setP (P := fun d => ∃ k : Nat, k < 16 ∧ d = dI k) 2 hnd (k_draw 0 16 DR hr (by decide) rfl (by omega) (by omega) e_int) ?_)
  rintro d ⟨k, hk, rfl⟩
  refine ss_cons (s_if (t_lt (e_var 2) e_int) (fun z => ?_) (fun z => ss_nil ?_))
  · have hk2 : k < 12 := by
      have := of_decide_eq_true z
      omega
    obtain ⟨w, hw⟩ : ∃ w, menu[k]? = some w := ⟨_, List.getElem?_eq_getElem (show k < menu.length from hk2)⟩
    refine ss_one (s_ret (e_ixL (ds := menu.map dW) ((e_var 1).is ?_) (e_var 2) (d := dW w) (atI_map hw)) ⟨rfl, w, menu_ok w (List.mem_of_getElem? hw), rfl⟩)
    rw [show menu.map dW = (menu.map wtx).map .str from by rw [List.map_map]; rfl, show menu.map wtx = (["a-aa", "a-", "ab-ba", "abc-bca", "ab-aba", "-", "ab-b", "abc-cab", "a-a", "ab-ab", "abc-acb", "abcd-dabc"] : List Str) from by decide +kernel]
    rfl
  · have hk2 : 12 ≤ k := by
      have := of_decide_eq_false z
      omega
    obtain ⟨a, ha, hab⟩ : ∃ a, [3, 4, 5, 8][k - 12]? = some a ∧ a ≤ 8 := by
      match k, hk, hk2 with
      | 12, _, _ => exact ⟨3, rfl, by decide⟩
      | 13, _, _ => exact ⟨4, rfl, by decide⟩
      | 14, _, _ => exact ⟨5, rfl, by decide⟩
      | 15, _, _ => exact ⟨8, rfl, by decide⟩
      | k + 16, h, _ => exact absurd h (by omega)
    obtain ⟨b, hb, hbb⟩ : ∃ b, [4, 4, 6, 12][k - 12]? = some b ∧ b ≤ 12 := by
      match k, hk, hk2 with
      | 12, _, _ => exact ⟨4, rfl, by decide⟩
      | 13, _, _ => exact ⟨4, rfl, by decide⟩
      | 14, _, _ => exact ⟨6, rfl, by decide⟩
      | 15, _, _ => exact ⟨12, rfl, by decide⟩
      | k + 16, h, _ => exact absurd h (by omega)
    have e1 : (k : Int) - 12 = ((k - 12 : Nat) : Int) := by omega
    refine ss_one (s_retP (k_call 0 E0 SH hr (by decide) pass0 rfl (ea_c (e_ixL (ds := [3, 4, 5, 8].map dI) (d := dI a) (el_lst (ea_c e_int (ea_c e_int (ea_c e_int (ea_c e_int ea_nil))))).im ((e_sub (e_var 2) e_int).is (congrArg PyData.int e1)) (atI_map ha)) (ea_c (e_ixL (ds := [4, 4, 6, 12].map dI) (d := dI b) (el_lst (ea_c e_int (ea_c e_int (ea_c e_int (ea_c e_int ea_nil))))).im ((e_sub (e_var 2) e_int).is (congrArg PyData.int e1)) (atI_map hb)) ea_nil)) ⟨a, b, hab, hbb, rfl⟩) ?_)
    exact fun d hd => ⟨rfl, hd⟩
end
def G_drow (ds : List PD) (d : PD) : Prop := ∃ r : List Wd, okR r ∧ r.length ≤ 20 ∧ d = dRow r
theorem row_of {ds : List PD} (h : ∀ (j : Nat) d, ds[j]? = some d → ∃ w : Wd, w.ok ∧ d = dW w) : ∃ r : List Wd, okR r ∧ ds = r.map dW := by
  induction ds with
  | nil => exact ⟨[], (fun w hw => nomatch hw), rfl⟩
  | cons d ds ih =>
    obtain ⟨r, hr, e⟩ := ih fun j d' hd => h (j + 1) d' hd
    obtain ⟨w, hw, ew⟩ := h 0 d rfl
    exact ⟨w :: r, okR_cons hw hr, by rw [ew, e]; rfl⟩
section
variable {P : Program} {wd : World} {K : PySem.W.Frag} {mg : Str → Option Value} {base : Heap}
theorem ok_L_row {f : Addr} {fd : FuncData} (B : Bt mg) (DR : CalD P wd K mg base CX0 2 "_law_draw" pL_draw [] (spK K A_draw G_draw)) (WO : CalD P wd K mg base CX0 4 "_law_word" pL_word [] (spK K (· = []) G_word)) (F : FnP K "_law_row" sL_row [] f fd) : FnOk P wd K mg base CX0 5 f fd pL_row (spK K (· = [dI 20]) G_drow) := by
  refine fn_okK F cL_row (fun ds h => ?_) (fun cdv A outer s H E av p ds hr hA => ?_)
  · rw [h]
    rfl
  subst hA
  have hnd := cL_row.nd
  refine ss_cons (s_setP (P := fun d => ∃ k : Nat, k < 4 ∧ d = dI k) 2 hnd (e_ixP (Pa := (· = .list ([0, 1, 1, 0, 2, 1, 0, 3].map dI))) (Pb := fun _ y => ∃ k : Nat, k < 8 ∧ y = dI k) (el_lst (ea_c e_int (ea_c e_int (ea_c e_int (ea_c e_int (ea_c e_int (ea_c e_int (ea_c e_int (ea_c e_int ea_nil))))))))).im (fun _ _ => k_draw 0 8 DR hr (by decide) rfl (by omega) (by omega) e_int) ?_) ?_)
  · rintro x y rfl ⟨k, hk, rfl⟩
    obtain ⟨a, ha, hab⟩ : ∃ a, [0, 1, 1, 0, 2, 1, 0, 3][k]? = some a ∧ a < 4 := by
      match k, hk with
      | 0, _ => exact ⟨0, rfl, by decide⟩
      | 1, _ => exact ⟨1, rfl, by decide⟩
      | 2, _ => exact ⟨1, rfl, by decide⟩
      | 3, _ => exact ⟨0, rfl, by decide⟩
      | 4, _ => exact ⟨2, rfl, by decide⟩
      | 5, _ => exact ⟨1, rfl, by decide⟩
      | 6, _ => exact ⟨0, rfl, by decide⟩
      | 7, _ => exact ⟨3, rfl, by decide⟩
      | k + 8, h => exact absurd h (by omega)
    exact ⟨_, _, _, .inr rfl, rfl, atI_map ha, a, hab, rfl⟩
  rintro d ⟨k, hk, rfl⟩
  refine ss_cons (s_setP (P := fun d => ∃ n : Nat, n ≤ 20 ∧ d = dI n) 3 hnd (e_ixP (Pa := fun d => ∃ a b c : Nat, a < 5 ∧ b < 10 ∧ c < 16 ∧ d = .list ([a, b, c, 20].map dI)) (Pb := fun _ y => y = dI k)
    ((el_lst (ea_cP (k_draw 0 5 DR hr (by decide) rfl (by omega) (by omega) e_int) (ea_cP (k_draw 0 10 DR hr (by decide) rfl (by omega) (by omega) e_int) (ea_cP (Pd := fun d => ∃ n : Nat, n < 16 ∧ d = dI n) (e_binP (Pa := (· = .int 8)) (Pb := fun _ y => ∃ n : Nat, n < 8 ∧ y = dI n) op_add e_int (fun _ _ => k_draw 0 8 DR hr (by decide) rfl (by omega) (by omega) e_int) ?_) (ea_c (e_var 1) ea_nil))))).toE.mono ?_)
    (fun _ _ => e_var 2) ?_) ?_)
  · rintro x y rfl ⟨n, hn, rfl⟩
    refine (r2_I0 (z := .int (8 + (n : Int))) fun _ _ => .int _).mono ?_
    rintro d rfl
    exact ⟨8 + n, by omega, by congr 1⟩
  · rintro d ⟨ds, rfl, _, _, rfl, ⟨a, ha, rfl⟩, _, _, rfl, ⟨b, hb, rfl⟩, _, _, rfl, ⟨c, hc, rfl⟩, rfl⟩
    exact ⟨a, b, c, ha, hb, hc, rfl⟩
  · rintro x y ⟨a, b, c, ha, hb, hc, rfl⟩ rfl
    obtain ⟨n, hn, hle⟩ : ∃ n, [a, b, c, 20][k]? = some n ∧ n ≤ 20 := by
      match k, hk with
      | 0, _ => exact ⟨a, rfl, by omega⟩
      | 1, _ => exact ⟨b, rfl, by omega⟩
      | 2, _ => exact ⟨c, rfl, by omega⟩
      | 3, _ => exact ⟨20, rfl, by omega⟩
      | k + 4, h => exact absurd h (by omega)
    exact ⟨_, _, _, .inr rfl, rfl, atI_map hn, n, hle, rfl⟩
  rintro d ⟨n, hn, rfl⟩
  refine ss_one (s_retP (e_tupleP B.tuple (el_lcRP (x := "_law_k") (j := 4) (P := (· = dI n)) (R := (· ≤ 20)) (Pe := fun _ d => ∃ w : Wd, w.ok ∧ d = dW w) rfl hnd rfl (fun _ _ _ _ _ => pg_name hnd rfl (Or.inl rfl)) B.range (e_var 3) (fun d hd => ⟨n, hd, by omega, hn⟩) (fun i s H C cl fp av' => (k_call (CX := CX0) (n := 4) (A := (· = [])) (G := G_word) (ds := []) 0 E0 WO hr (by decide) pass0 rfl ea_nil rfl).mono fun d hd => hd)).toE) ?_)
  rintro d ⟨ds, rfl, hl, hw⟩
  obtain ⟨r, hr', e⟩ := row_of hw
  refine ⟨rfl, r, hr', ?_, by rw [e]⟩
  rw [e, List.length_map] at hl
  exact hl
end
end Tk
end
section
namespace Tk
open PySem PySem.Spec PyProof.Rows L2
def G_read (ds : List PD) (d : PD) : Prop := ∃ w : Wd, w.ok ∧ ds = [dW w] ∧ d = .tuple [dI w.n, .list (w.l.map dI)]
def G_left (ds : List PD) (d : PD) : Prop := ∃ (r : List Wd) (st : List PD), okL r ∧ fits st r ∧ st.length ≤ 10000 ∧ ds = [dRow r, .tuple st] ∧ d = .tuple (runS st r)
def widerW (w : Wd) : Wd := if 7 < w.n ∨ 11 < w.l.length then w else ⟨w.n + 1, 0 :: w.l.map (· + 1)⟩
theorem widerW_ok {w : Wd} (h : w.ok) : (widerW w).ok := by
  obtain ⟨h1, h2, h3⟩ := h
  unfold widerW
  by_cases c : 7 < w.n ∨ 11 < w.l.length
  · rw [if_pos c]
    exact ⟨h1, h2, h3⟩
  · rw [if_neg c]
    refine ⟨by show w.n + 1 ≤ 8; omega, by show (0 :: w.l.map (· + 1)).length ≤ 12; rw [List.length_cons, List.length_map]; omega, fun k hk => ?_⟩
    rcases List.mem_cons.mp hk with rfl | hk
    · show 0 < w.n + 1
      omega
    · obtain ⟨j, hj, rfl⟩ := List.mem_map.mp hk
      have := h3 j hj
      show j + 1 < w.n + 1
      omega
section
variable {P : Program} {wd : World} {K : PySem.W.Frag} {mg : Str → Option Value} {base : Heap}
theorem ok_L_read {f : Addr} {fd : FuncData} (B : Bt mg) (F : FnP K "_law_read" sL_read [] f fd) : FnOk P wd K mg base CX0 1 f fd pL_read (spD K G_read) := by
  refine fn_okD F cL_read (fun ds d h => ?_) (fun cdv A outer s H E av ds d hr hG => ?_)
  · obtain ⟨w, _, rfl, _⟩ := h
    rfl
  · obtain ⟨w, hw, rfl, rfl⟩ := hG
    obtain ⟨h1, h2, h3⟩ := hw
    have hnd := cL_read.nd
    refine ss_cons (s_unpL [1, 2] (pg_unl rfl (pgs_cons (pg_name hnd rfl (by first | exact Or.inl rfl | exact Or.inr rfl)) (pgs_cons (pg_name hnd rfl (by first | exact Or.inl rfl | exact Or.inr rfl)) pgs_nil))) (e_split (e_var 0) e_str (by decide) (by rw [wtx_len]; omega)) (by rw [split_w]; rfl) ?_)
    rw [split_w]
    refine ss_one (s_ret (e_tup (ea_c (e_len (n := w.n) B.len (e_var 1) (by show (if (ltx w.n).length ≤ _ then some (ltx w.n).length else none) = _; rw [ltx_len, if_pos (by omega)])) (ea_c (EL.im (el_mapS (z := ttx w.l) (h := fun c => .int ((c - 97 : Nat) : Int)) 3 hnd (e_var 2) (by rw [ttx_len]; omega) (fun c hc s H C cl fp av => ?_))) ea_nil))) ⟨rfl, ?_⟩)
    · obtain ⟨k, hk, rfl⟩ := List.mem_map.mp hc
      have hk8 := h3 k hk
      exact (e_sindex e_str (e_var 3) (occ_abc k (by omega))).is (by rw [Nat.add_sub_cancel])
    · show PyData.tuple [_, PyData.list ((tls w.l).map _)] = _
      unfold tls
      rw [List.map_map]
      show _ = PyData.tuple [_, PyData.list (w.l.map dI)]
      congr 3
theorem ok_L_left {f : Addr} {fd : FuncData} (B : Bt mg) (RD : CalD P wd K mg base CX0 1 "_law_read" pL_read [] (spD K G_read)) (F : FnP K "_law_left" sL_left [] f fd) : FnOk P wd K mg base CX0 2 f fd pL_left (spD K G_left) := by
  refine fn_okD F cL_left (fun ds d h => ?_) (fun cdv A outer s H E av ds d hr hG => ?_)
  · obtain ⟨_, _, _, _, _, rfl, _⟩ := h
    rfl
  · obtain ⟨r, st, hro, hfi, hl, rfl, rfl⟩ := hG
    have hnd := cL_left.nd
    have hrl := hro.2
    refine ss_cons (s_forT 2 (fun i m' ρ' => ∃ st' s2 s3 s4 s5, m' = ⟨av, .no⟩ ∧ ρ' = [.im (dRow r), .im (.tuple st'), s2, s3, s4, s5, .no] ∧ fits st' (r.drop i) ∧ runS st' (r.drop i) = runS st r ∧ st'.length ≤ 10000 + 12 * i) rfl hnd PassesOwn.never (e_var 0) (flat_dRow r) ⟨st, .no, .no, .no, .no, rfl, rfl, hfi, rfl, by omega⟩ ?_ ?_)
    · rintro i d m' ρ' hd ⟨st', s2, s3, s4, s5, rfl, rfl, hf', hru, hl'⟩
      obtain ⟨w, hw, rfl⟩ := row_get hd
      obtain ⟨hi, ew⟩ := List.getElem?_eq_some_iff.mp hw
      rw [List.drop_eq_getElem_cons hi, ew] at hf' hru
      obtain ⟨hn, hf2⟩ := hf'
      have hwo := hro.1 w (List.mem_of_getElem? hw)
      have hwo' := hwo
      obtain ⟨h1, h2, h3⟩ := hwo
      refine ss_cons (s_unp [3, 4] (pg_tup rfl (pgs_cons (pg_name hnd rfl (by first | exact Or.inl rfl | exact Or.inr rfl)) (pgs_cons (pg_name hnd rfl (by first | exact Or.inl rfl | exact Or.inr rfl)) pgs_nil))) (c_call E0 RD hr (by decide) pass0 (ea_c (e_var 2) ea_nil) ⟨w, hwo', rfl, rfl⟩) rfl ?_)
      refine ss_cons (s_set 5 hnd (e_slT (e_var 1) (o_some ((e_sub (e_len (n := st'.length) B.len (e_var 1) rfl) (e_var 3)).is (d' := dI (st'.length - w.n)) (by show PyData.int _ = PyData.int _; congr 1; omega))) o_none) ?_)
      rw [(cut_ds (ds := st') (n := st'.length - w.n) (by omega)).2]
      refine ss_one (s_set 1 hnd ((e_cat ((e_slT (e_var 1) o_none (o_some ((e_sub (e_len (n := st'.length) B.len (e_var 1) rfl) (e_var 3)).is (d' := dI (st'.length - w.n)) (by show PyData.int _ = PyData.int _; congr 1; omega)))).is (congrArg PyData.tuple (cut_ds (ds := st') (n := st'.length - w.n) (by omega)).1)) (e_tuple B.tuple (EL.im (el_mapL (f := fun k => st'.getD (st'.length - w.n + k) .none) 6 hnd (e_var 4) (by omega) (fun k hk s H C cl fp av => ?_)))) (by rw [List.length_take, List.length_map]; omega)).is (d' := .tuple (stepS st' w .none)) rfl) ?_)
      · have hk' := h3 k hk
        refine e_ix (e_var 5) (e_var 6) (atI_nat ?_)
        rw [List.getElem?_drop, List.getD_eq_getElem?_getD, List.getElem?_eq_getElem (by omega)]
        rfl
      · have hl2 := stepS_len st' w PyData.none
        exact ⟨stepS st' w .none, _, _, _, _, rfl, rfl, hf2, hru, by omega⟩
    · rintro m' ρ' ⟨st', s2, s3, s4, s5, rfl, rfl, hf', hru, hl'⟩
      refine ss_one (s_ret (e_var 1) ⟨rfl, ?_⟩)
      rw [List.length_map, List.drop_length] at hru
      rw [← hru]
      rfl
end
end Tk
end
section
namespace Tk
open PySem PySem.Spec PyProof.Rows L2
def dO : Option Wd → PD
  | none => .none
  | some u => dW u
def G_wider (ds : List PD) (d : PD) : Prop := ∃ w : Wd, w.ok ∧ ds = [dW w] ∧ d = dW (widerW w)
def G_tog (ds : List PD) (d : PD) : Prop := ∃ v w : Wd, v.ok ∧ w.ok ∧ ds = [dW v, dW w] ∧ d = dO (togW v w)
def G_shrunk (ds : List PD) (d : PD) : Prop := ∃ r, okL r ∧ ds = [dRow r] ∧ d = .tuple [dRow (shrunk r).1, dPap (shrunk r).2]
def G_made (ds : List PD) (d : PD) : Prop := ∃ r t, okL r ∧ okL t ∧ ds = [dRow r, dRow t] ∧ d = dPap (madeP r t)
def G_ends (ds : List PD) (d : PD) : Prop := ∃ (r : List Wd) (st : List Nat), okL r ∧ r.length ≤ 60 ∧ st.length ≤ 10000 ∧ fits (st.map dNum) r ∧ (∃ st' : List Nat, runS (st.map dNum) r = st'.map dNum) ∧ ds = [dRow r, dSt st] ∧ d = .bool true
theorem wider_glue (w : Wd) : ltx (w.n + 1) ++ "-a" ++ ttx (w.l.map (· + 1)) = wtx ⟨w.n + 1, 0 :: w.l.map (· + 1)⟩ := by
  apply toList_inj
  rw [Str.cps_append, Str.cps_append, Array.toList_append, Array.toList_append]
  show lts (w.n + 1) ++ [45, 97] ++ tls (w.l.map (· + 1)) = lts (w.n + 1) ++ 45 :: tls (0 :: w.l.map (· + 1))
  rw [List.append_assoc]
  rfl
theorem good_dSt (n : Nat) (l : List Nat) : good (n + 2) (dSt l) := fun d hd => by
  obtain ⟨k, _, rfl⟩ := List.mem_map.mp hd
  intro x hx
  rcases List.mem_cons.mp hx with rfl | hx
  · show good n (.str "number")
    cases n <;> exact (show PyData.strOk "number" = true by decide +kernel)
  · rw [List.mem_singleton.mp hx]
    cases n <;> trivial
section
variable {P : Program} {wd : World} {K : PySem.W.Frag} {mg : Str → Option Value} {base : Heap}
theorem ok_L_wider {f : Addr} {fd : FuncData} (B : Bt mg) (F : FnP K "_law_wider" sL_wider [] f fd) : FnOk P wd K mg base CX0 1 f fd pL_wider (spD K G_wider) := by
  refine fn_okD F cL_wider (fun ds d h => ?_) (fun cdv A outer s H E av ds d hr hG => ?_)
  · obtain ⟨w, _, rfl, _⟩ := h
    rfl
  · obtain ⟨w, hw, rfl, rfl⟩ := hG
    have hwo := widerW_ok hw
    obtain ⟨h1, h2, h3⟩ := hw
    have hnd := cL_wider.nd
    have p1 : plen (.str (ltx w.n)) = some w.n := by
      show (if (ltx w.n).length ≤ _ then some (ltx w.n).length else none) = _
      rw [ltx_len, if_pos (by omega)]
    have p2 : plen (.str (ttx w.l)) = some w.l.length := by
      show (if (ttx w.l).length ≤ _ then some (ttx w.l).length else none) = _
      rw [ttx_len, if_pos (by omega)]
    refine ss_cons (s_unpL [1, 2] (pg_unl rfl (pgs_cons (pg_name hnd rfl (by first | exact Or.inl rfl | exact Or.inr rfl)) (pgs_cons (pg_name hnd rfl (by first | exact Or.inl rfl | exact Or.inr rfl)) pgs_nil))) (e_split (e_var 0) e_str (by decide) (by rw [wtx_len]; omega)) (by rw [split_w]; rfl) ?_)
    rw [split_w]
    refine ss_cons (s_if (c := decide (7 < w.n ∨ 11 < w.l.length)) ((t_w (w_or (c := decide ((7 : Int) < w.n)) (d := decide ((11 : Int) < w.l.length)) (t_gt (e_len B.len (e_var 1) p1) e_int) (fun _ => w_or1 (t_gt (e_len B.len (e_var 2) p2) e_int)))).is ?_) (fun z => ?_) (fun z => ss_nil ?_))
    · rw [← Bool.decide_or]
      congr 1
      exact propext ⟨fun h => by omega, fun h => by omega⟩
    · refine ss_one (s_ret (e_var 0) ⟨rfl, ?_⟩)
      unfold widerW
      rw [if_pos (of_decide_eq_true z)]
    · have z' := of_decide_eq_false z
      unfold widerW at hwo ⊢
      rw [if_neg z'] at hwo ⊢
      refine ss_cons (s_set 3 hnd ((e_join (ys := w.l.map fun k => (⟨#[(k + 1) + 97]⟩ : Str)) e_str (EL.im ?_) ?_).is (d' := .str (ttx (w.l.map (· + 1)))) ?_) ?_)
      · rw [List.map_map]
        have e : (ttx w.l).cps.toList.map (fun c => PyData.str (⟨#[c + 1]⟩ : Str)) = w.l.map ((fun s => PyData.str s) ∘ fun k => (⟨#[k + 1 + 97]⟩ : Str)) := by
          show (tls w.l).map _ = _
          unfold tls
          rw [List.map_map]
          exact List.map_congr_left fun k _ => by show PyData.str (⟨#[k + 97 + 1]⟩ : Str) = PyData.str (⟨#[k + 1 + 97]⟩ : Str); rw [Nat.add_right_comm]
        show EL _ _ _ _ (· = w.l.map ((fun s => PyData.str s) ∘ fun k => (⟨#[k + 1 + 97]⟩ : Str)))
        rw [← e]
        refine el_mapS (z := ttx w.l) (h := fun c => .str ⟨#[c + 1]⟩) 4 hnd (e_var 2) (by rw [ttx_len]; omega) (fun c hc s H C cl fp av => ?_)
        obtain ⟨k, hk, rfl⟩ := List.mem_map.mp hc
        have hk8 := h3 k hk
        have z2 : k + 1 < 8 := by omega
        refine (e_ixS e_str ((e_add (e_sindex e_str (e_var 4) (occ_abc k (by omega))) e_int).is (d' := dI (k + 1)) (by congr 1)) (by decide) (abc_at (k + 1) z2)).is ?_
        rw [Nat.add_right_comm]
      · rw [List.map_map]
        have e : (w.l.map ((fun x : Str => x.length) ∘ fun k => (⟨#[k + 1 + 97]⟩ : Str))) = w.l.map fun _ => 1 := List.map_congr_left fun k _ => rfl
        rw [e, List.length_map]
        have e2 : (w.l.map fun _ => 1).sum = w.l.length := by
          generalize w.l = l
          induction l with
          | nil => rfl
          | cons a l ih => rw [List.map_cons, List.sum_cons, List.length_cons, ih]; omega
        rw [e2]
        show w.l.length + w.l.length * 0 ≤ _
        omega
      · have := join_tx (w.l.map (· + 1))
        rw [List.map_map] at this
        exact congrArg PyData.str this
      · refine ss_one (s_ret (e_catS (e_catS ((e_slS e_str (by decide) o_none (o_some ((e_add (e_len B.len (e_var 1) p1) e_int).is (d' := dI (w.n + 1)) (by congr 1)))).is (congrArg PyData.str (abc_cut (w.n + 1) (by omega)))) e_str (by rw [ltx_len]; show w.n + 1 + 2 ≤ _; omega)) (e_var 3) (by rw [Str.length_append, ltx_len, ttx_len, List.length_map]; show w.n + 1 + 2 + w.l.length ≤ _; omega)) ⟨rfl, ?_⟩)
        exact congrArg PyData.str (wider_glue w)
theorem ok_L_together {f : Addr} {fd : FuncData} (B : Bt mg) (WH : CalD P wd K mg base CX0 2 "_law_whole" pL_whole [] (spD K (G_row fun r => dMp (whole r)))) (F : FnP K "_law_together" sL_together [] f fd) : FnOk P wd K mg base CX0 3 f fd pL_together (spD K G_tog) := by
  refine fn_okD F cL_together (fun ds d h => ?_) (fun cdv A outer s H E av ds d hr hG => ?_)
  · obtain ⟨_, _, _, _, rfl, _⟩ := h
    rfl
  · obtain ⟨v, w, hv, hw, rfl, rfl⟩ := hG
    have hnd := cL_together.nd
    have hvw := okR_two hv hw
    have g := whole_good hvw
    have wl := whole_len hvw
    have wn := whole_n hvw
    have e0 : togW v w = if 8 < (whole [v, w]).1 ∨ 12 < (whole [v, w]).2.length then none else some ⟨(whole [v, w]).1, (whole [v, w]).2⟩ := rfl
    refine ss_cons (s_unp [2, 3] (pg_tup rfl (pgs_cons (pg_name hnd rfl (by first | exact Or.inl rfl | exact Or.inr rfl)) (pgs_cons (pg_name hnd rfl (by first | exact Or.inl rfl | exact Or.inr rfl)) pgs_nil))) (ds := [dI (whole [v, w]).1, dIs (whole [v, w]).2]) (c_call E0 WH hr (by decide) pass0 (ea_c (e_tup (ea_c (e_var 0) (ea_c (e_var 1) ea_nil))) ea_nil) ⟨[v, w], ⟨hvw, by simp⟩, rfl, rfl⟩) rfl ?_)
    generalize whole [v, w] = s2 at e0 g wl wn ⊢
    obtain ⟨n, p⟩ := s2
    dsimp only at e0 wl wn
    rw [e0]
    simp only [List.length_cons, List.length_nil] at wl wn
    refine ss_cons (s_if (c := decide (8 < n ∨ 12 < p.length)) ((t_w (w_or (c := decide ((8 : Int) < n)) (d := decide ((12 : Int) < p.length)) (t_gt (e_var 2) e_int) (fun _ => w_or1 (t_gt (e_len (n := p.length) B.len (e_var 3) (by show some (p.map dI).length = _; rw [List.length_map])) e_int)))).is ?_) (fun z => ?_) (fun z => ss_nil ?_))
    · rw [← Bool.decide_or]
      congr 1
      exact propext ⟨fun h => by omega, fun h => by omega⟩
    · rw [if_pos (of_decide_eq_true z)]
      exact ss_one (s_ret e_non ⟨rfl, rfl⟩)
    · have z' := of_decide_eq_false z
      rw [if_neg z']
      have hn : n ≤ 8 := by omega
      have hp : p.length ≤ 12 := by omega
      refine ss_one (s_ret (e_catS (e_catS ((e_slS e_str (by decide) o_none (o_some (e_var 2))).is (congrArg PyData.str (abc_cut n hn))) e_str (by rw [ltx_len]; show n + 1 ≤ _; omega)) ((e_join (ys := p.map fun k => (⟨#[k + 97]⟩ : Str)) e_str (EL.im ?_) ?_).is (d' := .str (ttx p)) (congrArg PyData.str (join_tx p))) (by rw [Str.length_append, ltx_len, ttx_len]; show n + 1 + p.length ≤ _; omega)) ⟨rfl, ?_⟩)
      · rw [List.map_map]
        exact el_mapT (g := dI) (f := fun k => PyData.str (⟨#[k + 97]⟩ : Str)) 4 hnd (e_var 3) (by omega) (fun k hk s H C cl fp av => e_ixS e_str (e_var 4) (by decide) (abc_at k (Nat.lt_of_lt_of_le (g k hk) hn)))
      · rw [List.map_map]
        have e : (p.map ((fun x : Str => x.length) ∘ fun k => (⟨#[k + 97]⟩ : Str))) = p.map fun _ => 1 := List.map_congr_left fun k _ => rfl
        rw [e, List.length_map]
        have e2 : (p.map fun _ => 1).sum = p.length := by
          clear e0 g wl wn z z' hp e
          induction p with
          | nil => rfl
          | cons a l ih => rw [List.map_cons, List.sum_cons, List.length_cons, ih]; omega
        rw [e2]
        show p.length + p.length * 0 ≤ _
        omega
      · exact congrArg PyData.str (wtx_glue ⟨n, p⟩)
end
end Tk
end
section
namespace Tk
open PySem PySem.Spec PyProof.Rows L2
theorem good_pair {n : Nat} {a b : PD} (ha : good n a) (hb : good n b) : good (n + 1) (.tuple [a, b]) := fun x hx => by
  rcases List.mem_cons.mp hx with rfl | hx
  · exact ha
  · rw [List.mem_singleton.mp hx]
    exact hb
theorem good_ends (r : List Wd) (n : Nat) (st : List Nat) : good 4 (.tuple [.str "ended", dI n, .tuple [dSt st, .tuple []]]) := fun x hx => by
  rcases List.mem_cons.mp hx with rfl | hx
  · exact (show PyData.strOk "ended" = true by decide +kernel)
  · rcases List.mem_cons.mp hx with rfl | hx
    · trivial
    · rw [List.mem_singleton.mp hx]
      exact good_pair (good_dSt 0 st) (good_nil 1)
section
variable {P : Program} {wd : World} {K : PySem.W.Frag} {mg : Str → Option Value} {base : Heap}
theorem ok_L_ends {f : Addr} {fd : FuncData} (B : Bt mg) (RU : CalD P wd K mg base CX0 4 "run" prun [.non] (spD K G_run)) (LE : CalD P wd K mg base CX0 2 "_law_left" pL_left [] (spD K G_left)) (F : FnP K "_law_ends" sL_ends [] f fd) : FnOk P wd K mg base CX0 5 f fd pL_ends (spD K G_ends) := by
  refine fn_okD F cL_ends (fun ds d h => ?_) (fun cdv A outer s H E av ds d hr hG => ?_)
  · obtain ⟨_, _, _, _, _, _, _, rfl, _⟩ := h
    rfl
  · obtain ⟨r, st, hro, hrl, hsl, hfi, ⟨st', hst⟩, rfl, rfl⟩ := hG
    have hsl' : (st.map dNum).length ≤ 10000 := by rw [List.length_map]; exact hsl
    refine ss_one (s_ret (e_eq (c := true) (n := 4) (n' := 4) hr (c_callN E0 RU hr (by decide) pass0 (ea_c (e_var 0) (ea_c (e_var 1) (ea_c e_int ea_nil))) ⟨r, st.map dNum, 60, .none, hro, hrl, hsl', hfi, rfl, rfl⟩)
      (e_tup (ea_c e_str (ea_c (e_len (n := r.length) B.len (e_var 0) (by show some (r.map dW).length = _; rw [List.length_map])) (ea_c (e_tup (ea_c (c_call E0 LE hr (by decide) pass0 (ea_c (e_var 0) (ea_c (e_var 1) ea_nil)) ⟨r, st.map dNum, hro, hfi, hsl', rfl, rfl⟩) (ea_c (e_tup ea_nil) ea_nil))) ea_nil)))) ?_ ?_ ?_) ⟨rfl, rfl⟩)
    · exact ⟨fun _ => rfl, fun _ => rfl⟩
    · rw [hst]
      exact good_ends r _ st'
    · rw [hst]
      exact good_ends r _ st'
theorem ok_L_shrunk {f : Addr} {fd : FuncData} (B : Bt mg) (TO : CalD P wd K mg base CX0 3 "_law_together" pL_together [] (spD K G_tog)) (F : FnP K "_law_shrunk" sL_shrunk [] f fd) : FnOk P wd K mg base CX0 4 f fd pL_shrunk (spD K G_shrunk) := by
  refine fn_okD F cL_shrunk (fun ds d h => ?_) (fun cdv A outer s H E av ds d hr hG => ?_)
  · obtain ⟨_, _, rfl, _⟩ := h
    rfl
  · obtain ⟨r, hro, rfl, rfl⟩ := hG
    have hnd := cL_shrunk.nd
    refine ss_cons (s_setL (n := 0) (ds := []) 1 hnd rfl (el_lst ea_nil) (fun d hd => nomatch hd) (fun q => ?_))
    refine ss_cons (s_set 2 hnd e_int ?_)
    -- the end
    have fin : ∀ (m' : Mm) (r' : List Wd) (acc : List Tn) (q' : Addr) (s2 s3 : Sl), (s2 ≠ .mu ∧ s3 ≠ .mu) → m'.mu = .own q' (acc.map dTurn) → r' = (shrunk r).1 → acc = (shrunk r).2 →
        SS (cxOf CX0 P wd K mg base NL_shrunk "_law_shrunk" (defScope sL_shrunk) f cdv A outer s H E).nox ((defBody sL_shrunk).drop 3) m' [.im (dRow r'), .mu, s2, s3] (retD (.tuple [dRow (shrunk r).1, dPap (shrunk r).2])) := by
      intro m' r' acc q' s2 s3 ⟨n2, n3⟩ hm e1 e2
      refine ss_freeze (i := 1) hm rfl (fun j hj => ?_) (fun av2 => ?_)
      · match j, hj with
        | 0, _ => exact nofun
        | 1, h => exact absurd rfl h
        | 2, _ => exact fun z => n2 (Option.some.inj z)
        | 3, _ => exact fun z => n3 (Option.some.inj z)
        | j + 4, _ => exact fun z => by simp at z
      · exact ss_one (s_ret (e_tup (ea_c (e_var 0) (ea_c (e_tuple B.tuple (e_var 1)) ea_nil))) ⟨rfl, by rw [e1, e2]⟩)
    match r, hro with
    | [], hro =>
      refine ss_cons (s_while (fun k m' ρ' => m' = ownM ⟨av, .no⟩ q [] ∧ ρ' = [.im (dRow []), .mu, .im (.int 0), .no]) 0 PassesOwn.never ⟨rfl, rfl⟩ ?_)
      rintro k m' ρ' ⟨rfl, rfl⟩
      refine ⟨false, (t_lt (e_add (e_var 2) e_int) (e_len (n := 0) B.len (e_var 0) rfl)).is rfl, nf, fun _ => ?_⟩
      exact fin _ [] [] q _ _ ⟨nofun, nofun⟩ rfl rfl rfl
    | w :: r, hro =>
      refine ss_cons (s_while (fun k m' ρ' => ∃ pre w' rest acc s3, k = rest.length ∧ s3 ≠ .mu ∧ m' = ownM ⟨av, .no⟩ q (List.map dTurn acc) ∧ ρ' = [.im (dRow (pre ++ w' :: rest)), .mu, .im (dI pre.length), s3] ∧ okL (pre ++ w' :: rest) ∧ (shr pre w' rest).1 = (shrunk (w :: r)).1 ∧ acc ++ (shr pre w' rest).2 = (shrunk (w :: r)).2 ∧ acc.length + rest.length ≤ 1000) r.length PassesOwn.never ⟨[], w, r, [], .no, rfl, nofun, rfl, rfl, hro, rfl, rfl, by have := hro.2; simp at this ⊢; omega⟩ ?_)
      rintro k m' ρ' ⟨pre, w', rest, acc, s3, rfl, n3, rfl, rfl, hok, e1, e2, hal⟩
      have hlen : plen (dRow (pre ++ w' :: rest)) = some (pre.length + (rest.length + 1)) := by
        show some ((pre ++ w' :: rest).map dW).length = _
        rw [List.length_map, List.length_append, List.length_cons]
      match rest, e1, e2, hok, hlen, hal with
      | [], e1, e2, hok, hlen, hal =>
        refine ⟨false, (t_lt (e_add (e_var 2) e_int) (e_len B.len (e_var 0) hlen)).is (by simp), nf, fun _ => ?_⟩
        exact fin _ _ acc q _ _ ⟨nofun, n3⟩ rfl e1 (by rw [← e2]; exact (List.append_nil _).symm)
      | v :: rest, e1, e2, hok, hlen, hal =>
        have hw : w'.ok := hok.1 w' (List.mem_append_right _ List.mem_cons_self)
        have hv : v.ok := hok.1 v (List.mem_append_right _ (List.mem_cons_of_mem _ List.mem_cons_self))
        have hl := hok.2
        rw [List.length_append, List.length_cons, List.length_cons] at hl
        refine ⟨true, (t_lt (e_add (e_var 2) e_int) (e_len B.len (e_var 0) hlen)).is (by simp; omega), fun _ => ?_, tf⟩
        have at1 : atI ((pre ++ w' :: v :: rest).map dW) (pre.length : Int) = some (dW w') := atI_map (by rw [List.getElem?_append_right (Nat.le_refl _), Nat.sub_self]; rfl)
        have at2 : atI ((pre ++ w' :: v :: rest).map dW) ((pre.length + 1 : Nat) : Int) = some (dW v) := atI_map (by rw [List.getElem?_append_right (by omega), Nat.add_sub_cancel_left]; rfl)
        refine ss_cons (s_set 3 hnd (c_call E0 TO hr (by decide) pass0 (ea_c (e_ix (e_var 0) (e_var 2) at1) (ea_c (e_ix (e_var 0) ((e_add (e_var 2) e_int).is (d' := dI (pre.length + 1)) (by congr 1)) at2) ea_nil)) ⟨w', v, hw, hv, rfl, rfl⟩) ?_)
        cases eT : togW w' v with
        | none =>
          have es : shr pre w' (v :: rest) = shr (pre ++ [w']) v rest := by
            rw [shr, eT]
          rw [es] at e1 e2
          refine ss_one (s_if (c := true) ((t_isN (x := .none) (e_var 3) e_non).is rfl) (fun _ => ?_) tf)
          refine ss_one (s_set 2 hnd ((e_add (e_var 2) e_int).is (d' := dI (pre ++ [w']).length) (by rw [List.length_append]; congr 1)) ?_)
          refine ⟨rest.length, by rw [List.length_cons]; omega, pre ++ [w'], v, rest, acc, .im .none, rfl, nofun, rfl, ?_, ?_, e1, e2, by rw [List.length_cons] at hal; omega⟩
          · rw [List.append_assoc]
            rfl
          · rw [List.append_assoc]
            exact hok
        | some u =>
          obtain ⟨hu, hm⟩ := tog_ok hw hv eT
          have es : shr pre w' (v :: rest) = ((shr pre u rest).1, ⟨pre.length, 2, [u]⟩ :: (shr pre u rest).2) := by
            rw [shr, eT]
          rw [es] at e1 e2
          refine ss_one (s_if (c := false) ((t_isN (x := dW u) (e_var 3) e_non).is rfl) nf fun _ => ?_)
          refine ss_cons (s_append 1 rfl (by rw [List.length_map]; rw [List.length_cons] at hal; omega) (e_tup (ea_c (e_tup (ea_c (e_var 2) ea_nil)) (ea_c e_int (ea_c e_str (ea_c (e_tup (ea_c (e_var 3) ea_nil)) ea_nil))))) ?_)
          refine ss_one (s_set 0 hnd ((e_cat (e_cat ((e_slT (e_var 0) o_none (o_some (e_var 2))).is (congrArg PyData.tuple (cut_to (by rw [List.length_append]; omega)))) (e_tup (ea_c (e_var 3) ea_nil)) (by rw [List.length_map, List.length_take, List.length_append]; show _ + 1 ≤ _; simp only [List.length_cons]; omega)) ((e_slT (e_var 0) (o_some ((e_add (e_var 2) e_int).is (d' := dI (pre.length + 2)) (by congr 1))) o_none).is (congrArg PyData.tuple (cut_from (by rw [List.length_append, List.length_cons, List.length_cons]; omega)))) (by rw [List.length_append, List.length_map, List.length_map, List.length_take, List.length_drop, List.length_append]; simp only [List.length_cons, List.length_nil]; omega)).is (d' := dRow (pre ++ u :: rest)) ?_) ?_)
          · rw [List.take_left' rfl, List.drop_append, List.drop_of_length_le (by omega), Nat.add_sub_cancel_left]
            show PyData.tuple (pre.map dW ++ [dW u] ++ rest.map dW) = PyData.tuple ((pre ++ u :: rest).map dW)
            rw [List.map_append, List.append_assoc]
            rfl
          · refine ⟨rest.length, by rw [List.length_cons]; omega, pre, u, rest, acc ++ [⟨pre.length, 2, [u]⟩], .im (dW u), rfl, nofun, ?_, rfl, ?_, e1, ?_, by rw [List.length_append]; rw [List.length_cons] at hal; show acc.length + 1 + _ ≤ _; omega⟩
            · rw [List.map_append]
              rfl
            · refine ⟨fun x hx => ?_, by rw [List.length_append, List.length_cons]; omega⟩
              rcases List.mem_append.mp hx with hx | hx
              · exact hok.1 x (List.mem_append_left _ hx)
              · rcases List.mem_cons.mp hx with rfl | hx
                · exact hu
                · exact hok.1 x (List.mem_append_right _ (List.mem_cons_of_mem _ (List.mem_cons_of_mem _ hx)))
            · rw [List.append_assoc]
              exact e2
theorem ok_L_made {f : Addr} {fd : FuncData} (B : Bt mg) (SH : CalD P wd K mg base CX0 4 "_law_shrunk" pL_shrunk [] (spD K G_shrunk)) (TB : CalD P wd K mg base CX0 9 "turned_back" pturned_back [.non] (spD K G_back)) (F : FnP K "_law_made" sL_made [] f fd) : FnOk P wd K mg base CX0 10 f fd pL_made (spD K G_made) := by
  refine fn_okD F cL_made (fun ds d h => ?_) (fun cdv A outer s H E av ds d hr hG => ?_)
  · obtain ⟨_, _, _, _, rfl, _⟩ := h
    rfl
  · obtain ⟨r, t, hro, hto, rfl, rfl⟩ := hG
    have hnd := cL_made.nd
    obtain ⟨a, b, c, d, g⟩ := shrunk_ok hro
    obtain ⟨a2, b2, c2, d2, g2⟩ := shrunk_ok hto
    have l1 := hro.2
    have l2 := hto.2
    refine ss_cons (s_unp [2, 3] (pg_tup rfl (pgs_cons (pg_name hnd rfl (by first | exact Or.inl rfl | exact Or.inr rfl)) (pgs_cons (pg_name hnd rfl (by first | exact Or.inl rfl | exact Or.inr rfl)) pgs_nil))) (c_call E0 SH hr (by decide) pass0 (ea_c (e_var 0) ea_nil) ⟨r, hro, rfl, rfl⟩) rfl ?_)
    refine ss_cons (s_unp [4, 5] (pg_tup rfl (pgs_cons (pg_name hnd rfl (by first | exact Or.inl rfl | exact Or.inr rfl)) (pgs_cons (pg_name hnd rfl (by first | exact Or.inl rfl | exact Or.inr rfl)) pgs_nil))) (c_call E0 SH hr (by decide) pass0 (ea_c (e_var 1) ea_nil) ⟨t, hto, rfl, rfl⟩) rfl ?_)
    refine ss_cons (s_set 3 hnd ((e_cat (e_var 3) (e_tup (ea_c (e_tup (ea_c (e_tup (ea_c e_int ea_nil)) (ea_c (e_len (n := (shrunk r).1.length) B.len (e_var 2) (by show some ((shrunk r).1.map dW).length = _; rw [List.length_map])) (ea_c e_str (ea_c (e_var 4) ea_nil))))) ea_nil)) (by rw [List.length_map]; show _ + 1 ≤ _; omega)).is (d' := dPap ((shrunk r).2 ++ [⟨0, (shrunk r).1.length, (shrunk t).1⟩])) (by unfold dPap; rw [List.map_append]; rfl)) ?_)
    refine ss_one (s_ret (e_cat (e_var 3) (c_callN E0 TB hr (by decide) pass0 (ea_c (e_var 1) (ea_c (e_var 5) ea_nil)) ⟨t, (shrunk t).2, .none, a2, by rw [b2]; rfl, by omega, rfl, rfl⟩) (by rw [List.length_map, List.length_map, List.length_append, back_len]; show _ + 1 + _ ≤ _; omega)) ⟨rfl, ?_⟩)
    unfold madeP
    show PyData.tuple _ = PyData.tuple _
    simp only [List.map_append]
end
end Tk
end
section
namespace Tk
open PySem PySem.Spec PyProof.Rows L2
/-! ## plain tuples, their objects known: t.count(x) -/
theorem txOf {K : PySem.W.Frag} {av : Addr → Prop} {H : Hp} {v : V} {d : PD} (r : Rp K av H v d) (ns : List Int) (e : d = tX ns) : ∃ a, v = .ref a ∧ ExT H a (ns.map V.int) := by
  cases r with
  | tx x =>
    rename_i a ms
    have e2 : PyData.dict [(PyData.none, PyData.tuple (ms.map .int))] = PyData.dict [(PyData.none, PyData.tuple (ns.map .int))] := e
    injection e2 with e2
    injection e2 with e2 _
    injection e2 with _ e2
    injection e2 with e2
    have e3 : ms = ns := (List.map_inj_right fun x y z => by injection z).mp e2
    rw [e3] at x
    exact ⟨a, rfl, x⟩
  | _ => cases e
/-- tuple(x) of a list: a new tuple, its object known -/
def kTupX (K : PySem.W.Frag) (x : V) (H : Hp) (Q : VK) : Prop := ∃ p xs, x = .ref p ∧ SqL K H p xs ∧ ∀ q ob, H q = none → ob.cls = .type "tuple" → ob.dict = none → Q (.ref q) (upd H q (.frz ob (.tup xs)))
section
variable {X : Cx} {m : Mm} {e a b o : Expr} {es : List Expr} {ρ : List Sl} {P : PD → Prop} {pos p p2 : Pos} {ta to : TE} {t : TA}
theorem pe_tupleX (hg : Gl X "tuple") (hm : X.mg "tuple" = none) (ha : PE X a ta) (na : starEach [a] X.env = (false, eval a X.env) :: starEach [] X.env := by rfl) :
    PE X (.Call (.Name "tuple" p) [a] [] pos) (fun σ H Q => ta σ H fun x H1 => kTupX X.K x H1 Q) := by
  refine ⟨fun pins s σ H Q I h => ?_⟩
  refine Call_ (ld_blt I hg hm boot_tuple (PyProof.Rows.callWith_type1 (one_arg ha I h (fun v s2 x H2 I2 r q => ?_) na) na))
  obtain ⟨p, xs, rfl, hs, q⟩ := q
  obtain rfl : v = .ref p := r
  obtain ⟨its, rv, pl, hz⟩ := I2.list hs
  refine call_tuple_list pl.isList (fun h' hk => ?_) (by rw [List.size_toArray, ← rv.length]; exact hz)
  have I1 : Inv X pins σ H2 { s2 with heap := h' } := I2.kept (t' := s2.toks) hk
  have I3 : Inv X pins σ (upd H2 h'.objs.size (.frz { cls := .type "tuple", data := .seq its.toArray } (.tup xs))) { s2 with heap := h'.push { cls := .type "tuple", data := .seq its.toArray } } :=
    I1.laid (t' := s2.toks) (fun b o e => Heap.get?_push_of_some _ e) (Nat.le_refl _) (show ObjOk X.prog X.w _ _ _ (.frz _ (.tup xs)) from ⟨Heap.get?_push_size _ rfl, hz, its, rv, IsTup.new _ _⟩)
  exact ⟨.ref h'.objs.size, _, I3, rfl, q _ _ (I1.hok.fresh (Nat.le_refl _)) rfl rfl⟩
theorem e_tupleX {ns : List Int} (hm : X.mg "tuple" = none) (ha : E X m a ρ (· = .list (ns.map .int))) (hg : Gl X "tuple" := by rfl) (he : starEach [a] X.env = (false, eval a X.env) :: starEach [] X.env := by rfl) : E X m (.Call (.Name "tuple" p) [a] [] pos) ρ (· = tX ns) := fun H0 av0 σ H en Q k =>
  we_of (pe_tupleX hg hm pe_we he) (ha H0 av0 σ H en _ fun v d H1 k1 o1 r1 p1 => by
    subst p1
    cases r1 with
    | lst h1 h2 h3 =>
      rw [h3.ints] at h1
      exact ⟨_, _, rfl, SqL.of h1, fun q ob hq c1 c2 => k _ _ _ (k1.trans (Kp.new hq)) (o1.new hq) (.tx ⟨ob, upd_same, c1, c2⟩) rfl⟩)
/-- .. read as any tuple -/
theorem E.un {ns : List Int} (h : E X m e ρ (· = tX ns)) : E X m e ρ (· = .tuple (ns.map .int)) := fun H0 av0 σ H en Q k =>
  h H0 av0 σ H en _ fun v d H1 k1 o1 r1 p1 => by
    obtain ⟨a, rfl, x⟩ := txOf r1 ns p1
    exact k _ _ H1 k1 o1 (.tup x.sq (RpA.ofInts ns)) rfl
theorem tyX_is {pins : List (Addr × Obj)} {σ : L2.St} {H : Hp} {s : Shared} {a : Addr} {xs : List V} (I : Inv X pins σ H s) (x : ExT H a xs) : s.TypeIs (.ref a) "tuple" ∧ ∀ b, Value.ref a = .ref b → ∃ ob, s.heap.get? b = some ob ∧ ob.dict = none := by
  obtain ⟨ob, h, c1, c2⟩ := x
  have h1 := (I.hok a _ h).1
  exact ⟨⟨ob, h1, c1⟩, fun b e => by cases e; exact ⟨ob, h1, c2⟩⟩
variable {name : Str} {apos cpos : Pos} {id : String} {r : V → List V → Hp → VK → Prop}
theorem pe_bmX (slot : Slot "tuple" name id) (hty : typeOf (.builtin id) = pure (.type "method_descriptor")) (hm : MtR X id r) (ho : PE X o to) (ha : PA X (e :: es) t)
    (hbase : attributeBase o name X.env (eval o X.env) = eval o X.env := by rfl)
    (hfew : ((backTo cpos (starEach (e :: es) X.env)).all (fun x => !x.1) && (backToKw cpos (keywordEach [] X.env)).all (fun x => x.1.isSome)
      && decide ((e :: es).length + ([] : List Keyword).length + (if ([] : List Keyword).isEmpty then 0 else 1) < 30)) = true := by rfl)
    (hline : (apos.endLine == cpos.line) = true := by rfl) (hs : starEach (e :: es) X.env = (false, eval e X.env) :: starEach es X.env := by rfl) (hplain : (backTo cpos (starEach es X.env)).any (·.1) = false := by rfl) :
    PE X (.Call (.Attribute o name apos) (e :: es) [] cpos) (fun σ H Q => to σ H fun x H1 => (∃ a xs, x = .ref a ∧ ExT H1 a xs) ∧ t σ H1 fun xs H2 => r x xs H2 Q) := by
  refine ⟨fun pins s σ H Q I h => ?_⟩
  refine wpAny_Call_method_late hbase hfew hline rfl (thn (ho.run pins s σ H _ I h) fun v s1 ⟨x, H1, I1, r1, ty, q1⟩ => ?_)
  obtain ⟨a, xs, rfl, ex⟩ := ty
  obtain rfl : v = .ref a := r1
  obtain ⟨h1, h2⟩ := tyX_is I1 ex
  refine ⟨"tuple", id, PySem.F.plainAttrs_tuple, slot, hty, h1, h2, ?_⟩
  have hA := ha.run cpos pins s1 σ H1 _ I1 q1
  rw [hs] at hA ⊢
  refine Calls.callWith_builtin (by show (false || (backTo cpos (starEach es X.env)).any (·.1)) = false; rw [hplain] <;> rfl) (Calls.evalArgs_plain ?_)
  exact thn hA fun us s2 ⟨vs, H2, I2, r2, q2⟩ => hm pins s2 σ H2 (.ref a) vs (.ref a) us Q I2 rfl r2 q2
def rCnt (K : PySem.W.Frag) : V → List V → Hp → VK → Prop := fun x vs H Q => ∃ (a : Addr) (ns : List Int) (i : Int), x = .ref a ∧ vs = [.int i] ∧ SqT K H a (ns.map V.int) ∧ Q (.int ((ns.countP (· == i) : Nat) : Int)) H
def eqI (i : Int) : Value → Bool
  | .int k _ => k == i
  | _ => false
theorem vals_ints : ∀ {ns : List Int} {its : List Value}, Vals (ns.map V.int) its → (∀ y ∈ its, ∃ k t, y = .int k t) ∧ ∀ i, its.countP (eqI i) = ns.countP (· == i)
  | [], _, h => by
    cases h
    exact ⟨(fun _ z => nomatch z), fun _ => rfl⟩
  | n :: ns, _, h => by
    cases h with
    | cons h1 h2 =>
      obtain ⟨t, rfl⟩ := h1
      obtain ⟨a, b⟩ := vals_ints h2
      refine ⟨fun y hy => ?_, fun i => ?_⟩
      · rcases List.mem_cons.mp hy with rfl | hy
        · exact ⟨_, _, rfl⟩
        · exact a y hy
      · rw [List.countP_cons, List.countP_cons, b i]
        rfl
theorem mt_countX : MtR X "tuple.count" (rCnt X.K) := by
  intro pins s σ H x vs v us Q I rx rvs h
  obtain ⟨a, ns, i, rfl, rfl, hq, q⟩ := h
  obtain rfl : v = .ref a := rx
  obtain ⟨u, rfl, ru⟩ := Vals.one rvs
  obtain ⟨t, rfl⟩ := ru
  obtain ⟨its, rv, pl, hz⟩ := I.tuple hq
  obtain ⟨hi, hc⟩ := vals_ints rv
  obtain ⟨⟨cls, dd, data, sl⟩, ho, hcl, n, hd⟩ := pl
  simp only at hcl hd
  subst hcl hd
  refine call_meets PySem.F.slot_tuple_count ⟨_, ho, rfl⟩ PySem.F.entry_tuple_count (PySem.F.args_tuple_count_2 _ _) (PySem.SeqAt.tuple_countAt a its.toArray n dd sl (.int i t) (eqI i)) ⟨ho, fun y hy => ?_, ?_⟩
  · obtain ⟨k, t2, rfl⟩ := hi y (by simpa using hy)
    exact PySem.SeqAt.EqAt.int_int k t2 i t
  · refine ⟨.int _, H, I.tok _, ⟨_, rfl⟩, ?_⟩
    have := hc i
    rw [show its.toArray.toList = its from rfl, this]
    exact q
/-- x.count(e), x a plain tuple of ints -/
theorem e_count {ns : List Int} {i : Int} (ho : E X m o ρ (· = tX ns)) (ha : E X m a ρ (· = .int i)) (hbase : attributeBase o "count" X.env (eval o X.env) = eval o X.env := by rfl)
    (hfew : ((backTo cpos (starEach [a] X.env)).all (fun x => !x.1) && (backToKw cpos (keywordEach [] X.env)).all (fun x => x.1.isSome)
      && decide ([a].length + ([] : List Keyword).length + (if ([] : List Keyword).isEmpty then 0 else 1) < 30)) = true := by rfl)
    (hline : (apos.endLine == cpos.line) = true := by rfl) (hs : starEach [a] X.env = (false, eval a X.env) :: starEach [] X.env := by rfl) (hplain : (backTo cpos (starEach [] X.env)).any (·.1) = false := by rfl) :
    E X m (.Call (.Attribute o "count" apos) [a] [] cpos) ρ (· = .int ((ns.countP (· == i) : Nat) : Int)) := fun H0 av0 σ H en Q k =>
  we_of (pe_bmX PySem.F.slot_tuple_count PySem.F.type_tuple_count mt_countX pe_we (pa_cons pe_we pa_nil hs) hbase hfew hline hs hplain) (ho H0 av0 σ H en _ fun v d H1 k1 o1 r1 p1 => by
    obtain ⟨b, rfl, x⟩ := txOf r1 ns p1
    refine ⟨⟨b, _, rfl, x⟩, ha H0 av0 σ H1 (en.step k1 o1) _ fun v2 d2 H2 k2 o2 r2 p2 => ?_⟩
    subst p2
    cases r2
    exact ⟨b, ns, i, rfl, rfl, k2.tt.1 _ _ x.sq, k _ _ H2 (k1.trans k2) o2 (.int _) rfl⟩)
end
end Tk
end
section
namespace Tk
open PySem PySem.Spec PyProof.Rows L2
abbrev dX (p : List Nat) : PD := tX (p.map fun (k : Nat) => (k : Int))
def G_wholeX (ds : List PD) (d : PD) : Prop := ∃ r, okL r ∧ ds = [dRow r] ∧ d = .tuple [dI (whole r).1, dX (whole r).2]
def G_leastX (ds : List PD) (d : PD) : Prop := ∃ (n : Nat) (p : List Nat), p.length ≤ 100000 ∧ ds = [dI n, dX p] ∧ d = dMp (leastM n p)
theorem whole_plain {P : Program} {w : World} {K : PySem.W.Frag} {mg : Str → Option Value} {base : Heap} {f : Addr} {fd : FuncData} {ps : List Str} {k : Nat} (F : FnOk P w K mg base CX0 k f fd ps (spD K G_wholeX)) : FnOk P w K mg base CX0 k f fd ps (spD K (G_row fun r => dMp (whole r))) := F.imp fun vs H Q E h => by
  obtain ⟨av, ds, d, hd, r, ⟨row, ho, rfl, rfl⟩, hQ⟩ := h
  refine ⟨av, [dRow row], .tuple [dI (whole row).1, dX (whole row).2], hd, r, ⟨row, ho, rfl, rfl⟩, fun v H' s rp => hQ v H' s ?_⟩
  cases rp with
  | tup h1 h2 =>
    refine .tup h1 ?_
    cases h2 with
    | cons a b =>
      cases b with
      | cons b c =>
        obtain ⟨q, rfl, x⟩ := txOf b _ rfl
        cases c
        refine .cons a (.cons ?_ .nil)
        rw [dIs_ints]
        exact .tup x.sq (RpA.ofInts _)
/-- one thing more from beneath -/
theorem least_step {n k : Nat} {p : List Nat} (hk : p.take k = List.range k) (hg : ∀ x ∈ p.drop k, k ≤ x) :
    (k < n ∧ k < p.length ∧ p.getD k 0 = k ∧ p.countP (· == k) = 1 → p.take (k + 1) = List.range (k + 1) ∧ (∀ x ∈ p.drop (k + 1), k + 1 ≤ x) ∧ leastM (n - k) ((p.drop k).map (· - k)) = leastM (n - (k + 1)) ((p.drop (k + 1)).map (· - (k + 1)))) ∧
    (¬ (k < n ∧ k < p.length ∧ p.getD k 0 = k ∧ p.countP (· == k) = 1) → leastM (n - k) ((p.drop k).map (· - k)) = (n - k, (p.drop k).map (· - k))) := by
  have hc1 : ∀ q, k < p.length → p.getD k 0 = q → p.drop k = q :: p.drop (k + 1) := fun q hl e => by
    rw [List.drop_eq_getElem_cons hl, ← e, getD_lt hl]
  have hcount : k < p.length → p.getD k 0 = k → p.countP (· == k) = 1 + (p.drop (k + 1)).countP (· == k) := fun hl e => by
    have h1 : p.countP (· == k) = (p.take k).countP (· == k) + (p.drop k).countP (· == k) := by rw [← List.countP_append, List.take_append_drop]
    have h2 : (p.take k).countP (· == k) = 0 := by
      rw [hk, List.countP_eq_zero]
      intro x hx
      have := List.mem_range.mp hx
      simp
      omega
    rw [h1, h2, hc1 k hl e, List.countP_cons]
    simp
    omega
  have hcz : (p.drop (k + 1)).countP (· == k) = 0 ↔ k ∉ p.drop (k + 1) := by
    rw [List.countP_eq_zero]
    exact ⟨fun h z => by simpa using h k z, fun h x hx => by simp; exact fun z => h (z ▸ hx)⟩
  constructor
  · rintro ⟨h1, h2, h3, h4⟩
    have e1 := hc1 k h2 h3
    have hno : k ∉ p.drop (k + 1) := hcz.mp (by rw [hcount h2 h3] at h4; omega)
    have hg' : ∀ x ∈ p.drop (k + 1), k + 1 ≤ x := fun x hx => by
      have a := hg x (by rw [e1]; exact List.mem_cons_of_mem _ hx)
      have b : x ≠ k := fun z => hno (z ▸ hx)
      omega
    refine ⟨?_, hg', ?_⟩
    · rw [List.take_add_one, hk, List.range_succ]
      congr 1
      rw [List.getElem?_eq_getElem h2]
      rw [getD_lt h2] at h3
      rw [h3]
      rfl
    · rw [e1, List.map_cons, Nat.sub_self, show n - k = (n - (k + 1)) + 1 by omega, leastM_cons]
      have c : (0 : Nat) = 0 ∧ 0 ∉ (p.drop (k + 1)).map (· - k) := ⟨rfl, fun z => by
        obtain ⟨x, hx, e⟩ := List.mem_map.mp z
        have := hg' x hx
        have e' : x - k = 0 := e
        omega⟩
      rw [if_pos c, List.map_map]
      congr 1
  · intro hno
    by_cases h1 : k < n
    · by_cases h2 : k < p.length
      · have e1 := hc1 _ h2 rfl
        rw [e1, List.map_cons, show n - k = (n - (k + 1)) + 1 by omega, leastM_cons]
        refine if_neg fun c => ?_
        have hge := hg (p.getD k 0) (by rw [e1]; exact List.mem_cons_self)
        have h3 : p.getD k 0 = k := by
          have := c.1
          omega
        refine hno ⟨h1, h2, h3, ?_⟩
        rw [hcount h2 h3, hcz.mpr fun z => c.2 (List.mem_map.mpr ⟨k, z, Nat.sub_self k⟩)]
      · rw [List.drop_of_length_le (by omega), List.map_nil]
        cases n - k <;> rfl
    · rw [show n - k = 0 by omega]
      rfl
section
variable {P : Program} {wd : World} {K : PySem.W.Frag} {mg : Str → Option Value} {base : Heap}
theorem ok_L_least {f : Addr} {fd : FuncData} (B : Bt mg) (F : FnP K "_law_least" sL_least [] f fd) : FnOk P wd K mg base CX0 1 f fd pL_least (spD K G_leastX) := by
  refine fn_okD F cL_least (fun ds d h => ?_) (fun cdv A outer s H E av ds d hr hG => ?_)
  · obtain ⟨_, _, _, rfl, _⟩ := h
    rfl
  · obtain ⟨n, p, hpl, rfl, rfl⟩ := hG
    have hnd := cL_least.nd
    have eP : PyData.tuple ((p.map fun (k : Nat) => (k : Int)).map .int) = dIs p := (dIs_ints p).symm
    refine ss_cons (s_set 2 hnd e_int ?_)
    refine ss_cons (s_while (fun j m' ρ' => ∃ k : Nat, j = p.length - k ∧ k ≤ p.length ∧ p.take k = List.range k ∧ (∀ x ∈ p.drop k, k ≤ x) ∧ leastM (n - k) ((p.drop k).map (· - k)) = leastM n p ∧ k ≤ n ∧ m' = ⟨av, .no⟩ ∧ ρ' = [.im (dI n), .im (dX p), .im (dI k), .no]) p.length PassesOwn.never ⟨0, rfl, Nat.zero_le _, rfl, fun _ _ => Nat.zero_le _, by rw [List.drop_zero, Nat.sub_zero]; congr 1; exact (List.map_congr_left fun x _ => Nat.sub_zero x).trans (List.map_id _), Nat.zero_le _, rfl, rfl⟩ ?_)
    rintro j m' ρ' ⟨k, rfl, hkl, hk, hg, hle, hkn, rfl, rfl⟩
    obtain ⟨st1, st2⟩ := least_step (n := n) hk hg
    have elen : plen (dIs p) = some p.length := by
      show some (p.map dI).length = _
      rw [List.length_map]
    refine ⟨decide (k < n) && (decide (k < p.length) && (decide (p.getD k 0 = k) && decide (p.countP (· == k) = 1))), t_w (w_and ((t_lt (e_var 2) (e_var 0)).is (decide_eq_decide.mpr (by omega))) fun _ => w_and ((t_lt (e_var 2) (e_len B.len ((e_var 1).un.is eP) elen)).is (decide_eq_decide.mpr (by omega))) fun z2 => w_and ((t_eqI (i := (p.getD k 0 : Nat)) (e_ix ((e_var 1).un.is eP) (e_var 2) (atI_map ?_)) (e_var 2)).is (decide_eq_decide.mpr (by omega))) fun _ => w_and1 ((t_eqI (e_count (e_var 1) (e_var 2)) e_int).is (decide_eq_decide.mpr ?_))), fun z => ?_, fun z => ?_⟩
    · have := of_decide_eq_true z2
      rw [getD_lt this, List.getElem?_eq_getElem this]
    · have e : (p.map fun (k : Nat) => (k : Int)).countP (· == (k : Int)) = p.countP (· == k) := by
        rw [List.countP_map]
        refine List.countP_congr fun x _ => ?_
        show ((x : Int) == (k : Int)) = true ↔ (x == k) = true
        rw [beq_iff_eq, beq_iff_eq]
        omega
      rw [e]
      omega
    · simp only [Bool.and_eq_true, decide_eq_true_iff] at z
      obtain ⟨s1, s2, s3⟩ := st1 z
      refine ss_one (s_set 2 hnd ((e_add (e_var 2) e_int).is (d' := dI (k + 1)) (by congr 1)) ?_)
      exact ⟨p.length - (k + 1), by omega, k + 1, rfl, by omega, s1, s2, by rw [← s3]; exact hle, by omega, rfl, rfl⟩
    · have z' : ¬ (k < n ∧ k < p.length ∧ p.getD k 0 = k ∧ p.countP (· == k) = 1) := fun c => by
        rw [decide_eq_true c.1, decide_eq_true c.2.1, decide_eq_true c.2.2.1, decide_eq_true c.2.2.2] at z
        cases z
      have e := st2 z'
      rw [hle] at e
      rw [e]
      refine ss_one (s_ret (e_tup (ea_c ((e_sub (e_var 0) (e_var 2)).is (d' := dI (n - k)) (by show PyData.int _ = PyData.int _; congr 1; omega)) (ea_c (e_tuple B.tuple (EL.im (el_mapT (g := dI) (f := fun x => dI (x - k)) 3 hnd ((e_slT ((e_var 1).un.is eP) (o_some (e_var 2)) o_none).is (congrArg PyData.tuple (cut_from hkl))) (by rw [List.length_drop]; omega) (fun x hx s H C cl fp av => (e_sub (e_var 3) (e_var 2)).is ?_)))) ea_nil))) ⟨rfl, ?_⟩)
      · have := hg x hx
        show PyData.int _ = PyData.int _
        congr 1
        omega
      · show PyData.tuple [_, PyData.tuple _] = PyData.tuple [_, PyData.tuple _]
        rw [List.map_map]
        rfl
end
end Tk
end
section
namespace Tk
open PySem PySem.Spec PyProof.Rows L2
/-- the stack that the law keeps: things from beneath are told by numbers below 0 -/
def lst (s : Mp) : List PD := s.2.map fun (k : Nat) => .int ((k : Int) - (s.1 : Int))
theorem lst_len (s : Mp) : (lst s).length = s.2.length := List.length_map _
/-- so many more from beneath -/
def more (s : Mp) (j : Nat) : Mp := (s.1 + j, List.range j ++ s.2.map (· + j))
theorem more_len (s : Mp) (j : Nat) : (more s j).2.length = j + s.2.length := by
  unfold more
  rw [List.length_append, List.length_range, List.length_map]
theorem lst_more (s : Mp) (j : Nat) : PyData.int (0 - ((s.1 + j + 1 : Nat) : Int)) :: lst (more s j) = lst (more s (j + 1)) := by
  unfold lst more
  dsimp only
  rw [List.range_succ_eq_map, List.cons_append, List.map_cons, List.map_append, List.map_append, List.map_map, List.map_map, List.map_map]
  congr 1
  congr 1
  · exact List.map_congr_left fun x _ => by show PyData.int ((x : Int) - ((s.1 + j : Nat) : Int)) = PyData.int (((x + 1 : Nat) : Int) - ((s.1 + (j + 1) : Nat) : Int)); congr 1; omega
  · exact List.map_congr_left fun x _ => by show PyData.int (((x + j : Nat) : Int) - ((s.1 + j : Nat) : Int)) = PyData.int (((x + (j + 1) : Nat) : Int) - ((s.1 + (j + 1) : Nat) : Int)); congr 1; omega
theorem mw_more (s : Mp) (w : Wd) : mw s w = ((more s (w.n - s.2.length)).1, (more s (w.n - s.2.length)).2.take ((more s (w.n - s.2.length)).2.length - w.n) ++ w.l.map fun k => (more s (w.n - s.2.length)).2.getD ((more s (w.n - s.2.length)).2.length - w.n + k) 0) := by
  rw [more_len]
  rfl
theorem flat_lst (s : Mp) : ∀ d ∈ lst s, flatD 0 d := fun d hd => by
  obtain ⟨k, _, rfl⟩ := List.mem_map.mp hd
  trivial
section
variable {P : Program} {wd : World} {K : PySem.W.Frag} {mg : Str → Option Value} {base : Heap}
theorem ok_L_map {f : Addr} {fd : FuncData} (WH : CalD P wd K mg base CX0 2 "_law_whole" pL_whole [] (spD K G_wholeX)) (LE : CalD P wd K mg base CX0 1 "_law_least" pL_least [] (spD K G_leastX)) (F : FnP K "_law_map" sL_map [] f fd) : FnOk P wd K mg base CX0 3 f fd pL_map (spD K (G_row fun r => dMp (mapOf r))) := by
  refine fn_okD F cL_map (fun ds d h => ?_) (fun cdv A outer s H E av ds d hr hG => ?_)
  · obtain ⟨r, _, rfl, _⟩ := h
    rfl
  · obtain ⟨r, ⟨ho, hl⟩, rfl, rfl⟩ := hG
    have hnd := cL_map.nd
    refine ss_cons (s_unp [1, 2] (pg_tup rfl (pgs_cons (pg_name hnd rfl (by first | exact Or.inl rfl | exact Or.inr rfl)) (pgs_cons (pg_name hnd rfl (by first | exact Or.inl rfl | exact Or.inr rfl)) pgs_nil))) (ds := [dI (whole r).1, dX (whole r).2]) (c_call E0 WH hr (by decide) pass0 (ea_c (e_var 0) ea_nil) ⟨r, ⟨ho, hl⟩, rfl, rfl⟩) rfl ?_)
    refine ss_one (s_ret (c_call E0 LE hr (by decide) pass0 (ea_c (e_var 1) (ea_c (e_var 2) ea_nil)) ⟨(whole r).1, (whole r).2, ?_, rfl, rfl⟩) ⟨rfl, rfl⟩)
    have := whole_len ho
    omega
theorem ok_L_whole {f : Addr} {fd : FuncData} (B : Bt mg) (RD : CalD P wd K mg base CX0 1 "_law_read" pL_read [] (spD K G_read)) (F : FnP K "_law_whole" sL_whole [] f fd) : FnOk P wd K mg base CX0 2 f fd pL_whole (spD K G_wholeX) := by
  refine fn_okD F cL_whole (fun ds d h => ?_) (fun cdv A outer s H E av ds d hr hG => ?_)
  · obtain ⟨r, _, rfl, _⟩ := h
    rfl
  · obtain ⟨r, ⟨ho, hl⟩, rfl, rfl⟩ := hG
    have hnd := cL_whole.nd
    refine ss_cons (s_setL (n := 0) (ds := []) 1 hnd rfl (el_lst ea_nil) (fun d hd => nomatch hd) (fun q => ?_))
    refine ss_cons (s_set 2 hnd e_int ?_)
    refine ss_cons (s_forT 3 (fun i m' ρ' => ∃ av' q' s3 s4 s5 s6, (s4 ≠ .mu ∧ s5 ≠ .mu ∧ s6 ≠ .mu) ∧ m' = ⟨av', .own q' (lst (whole (r.take i)))⟩ ∧ ρ' = [.im (dRow r), .mu, .im (dI (whole (r.take i)).1), s3, s4, s5, s6, .no, .no] ∧ s3 ≠ .mu) rfl hnd PassesOwn.never (e_var 0) (flat_dRow r) ⟨_, q, .no, .no, .no, .no, ⟨nofun, nofun, nofun⟩, rfl, rfl, nofun⟩ ?_ ?_)
    · rintro i d m' ρ' hd ⟨av', q', s3, s4, s5, s6, ⟨n4, n5, n6⟩, rfl, rfl, n3⟩
      obtain ⟨w, hw, rfl⟩ := row_get hd
      have hwo := ho w (List.mem_of_getElem? hw)
      have hwo' := hwo
      obtain ⟨h1, h2, h3⟩ := hwo
      have hsl := whole_len (ho.take i)
      rw [List.length_take] at hsl
      have ewt := whole_take hw
      have emm := mw_more (whole (r.take i)) w
      rw [← ewt] at emm
      generalize whole (r.take i) = s0 at hsl emm ⊢
      refine ss_cons (s_unp [4, 5] (pg_tup rfl (pgs_cons (pg_name hnd rfl (by first | exact Or.inl rfl | exact Or.inr rfl)) (pgs_cons (pg_name hnd rfl (by first | exact Or.inl rfl | exact Or.inr rfl)) pgs_nil))) (c_call E0 RD hr (by decide) pass0 (ea_c (e_var 3) ea_nil) ⟨w, hwo', rfl, rfl⟩) rfl ?_)
      refine ss_cons (s_while (fun k m' ρ' => ∃ j : Nat, j + k = w.n - s0.2.length ∧ m' = ⟨av', .own q' (lst (more s0 j))⟩ ∧ ρ' = [.im (dRow r), .mu, .im (dI (s0.1 + j)), .im (dW w), .im (dI w.n), .im (.list (w.l.map dI)), s6, .no, .no]) (w.n - s0.2.length) PassesOwn.never ⟨0, by omega, ?_, rfl⟩ ?_)
      · congr 2
        unfold lst more
        dsimp only
        rw [List.range_zero, List.nil_append, List.map_map]
        rfl
      rintro k m' ρ' ⟨j, hj, rfl, rfl⟩
      have hml := more_len s0 j
      refine ⟨decide (0 < k), (t_lt (e_lenMu 1 rfl B.len) (e_var 4)).is (decide_eq_decide.mpr (by rw [lst_len, hml]; omega)), fun z => ?_, fun z => ?_⟩
      · have hk := of_decide_eq_true z
        refine ss_cons (s_set 2 hnd ((e_add (e_var 2) e_int).is (d' := dI (s0.1 + (j + 1))) (by congr 1)) ?_)
        refine ss_one (s_insert0 1 rfl (by rw [lst_len, hml]; omega) e_int (e_sub e_int (e_var 2)) ?_)
        exact ⟨k - 1, by omega, j + 1, by omega, by rw [← lst_more]; rfl, rfl⟩
      · have hk := of_decide_eq_false z
        have ej : j = w.n - s0.2.length := by omega
        rw [← ej] at emm
        refine ss_freeze (i := 1) rfl rfl (fun j hj => ?_) (fun av2 => ?_)
        · match j, hj with
          | 0, _ => exact nofun
          | 1, h => exact absurd rfl h
          | 2, _ => exact nofun
          | 3, _ => exact nofun
          | 4, _ => exact nofun
          | 5, _ => exact nofun
          | 6, _ => exact fun z => n6 (Option.some.inj z)
          | 7, _ => exact nofun
          | 8, _ => exact nofun
          | j + 9, _ => exact fun z => by simp at z
        have hwl : w.n ≤ (more s0 j).2.length := by omega
        have e1 : (more s0 j).1 = s0.1 + j := rfl
        generalize hS : more s0 j = S at emm hml hwl e1 ⊢
        rw [← e1]
        have elk : plen (.list (lst S)) = some S.2.length := by
          show some (lst S).length = _
          rw [lst_len]
        refine ss_cons (s_set 6 hnd ((el_slL (e_var 1) (o_some ((e_sub (e_len B.len (e_var 1) elk) (e_var 4)).is (d' := dI (S.2.length - w.n)) (by show PyData.int _ = PyData.int _; congr 1; omega))) o_none).im) ?_)
        refine ss_one (s_setL (n := 0) (ds := lst (whole (r.take (i + 1)))) 1 hnd rfl ?_ (flat_lst _) (fun q2 => ?_))
        · have eL : lst (whole (r.take (i + 1))) = (lst S).take (S.2.length - w.n) ++ w.l.map fun k => PyData.int ((S.2.getD (S.2.length - w.n + k) 0 : Nat) - (S.1 : Int)) := by
            rw [emm]
            unfold lst
            dsimp only
            rw [List.map_append, List.map_take, List.map_map]
            rfl
          rw [eL]
          refine el_cat ?_ (el_mapL (g := dI) (f := fun k => PyData.int ((S.2.getD (S.2.length - w.n + k) 0 : Nat) - (S.1 : Int))) 7 hnd (e_var 5) (by omega) (fun k hk s H C cl fp av => ?_)) (by rw [List.length_take, List.length_map, lst_len]; omega)
          · rw [← (cut_ds (ds := lst S) (n := S.2.length - w.n) (by rw [lst_len]; omega)).1]
            exact el_slL (e_var 1) o_none (o_some ((e_sub (e_len B.len (e_var 1) elk) (e_var 4)).is (d' := dI (S.2.length - w.n)) (by show PyData.int _ = PyData.int _; congr 1; omega)))
          · have hk' := h3 k hk
            refine e_ixL (e_var 6) (e_var 7) ?_
            rw [show cutP (lst S) (some ((S.2.length - w.n : Nat) : Int)) none = (S.2.drop (S.2.length - w.n)).map fun (k : Nat) => PyData.int ((k : Int) - (S.1 : Int)) from cut_from (by omega)]
            refine atI_map (x := S.2.getD (S.2.length - w.n + k) 0) ?_
            rw [List.getElem?_drop, getD_lt (by omega)]
            exact List.getElem?_eq_getElem _
        · have e9 : (whole (r.take (i + 1))).1 = S.1 := by rw [emm]
          rw [e9]
          exact ⟨_, q2, .im (dW w), .im (dI w.n), .im (.list (w.l.map dI)), .im (.list (cutP (lst S) (some ((S.2.length - w.n : Nat) : Int)) none)), ⟨nofun, nofun, nofun⟩, rfl, rfl, nofun⟩
    · rintro m' ρ' ⟨av', q', s3, s4, s5, s6, ⟨n4, n5, n6⟩, rfl, rfl, n3⟩
      rw [List.length_map, List.take_length]
      refine ss_freeze (i := 1) rfl rfl (fun j hj => ?_) (fun av2 => ?_)
      · match j, hj with
        | 0, _ => exact nofun
        | 1, h => exact absurd rfl h
        | 2, _ => exact nofun
        | 3, _ => exact fun z => n3 (Option.some.inj z)
        | 4, _ => exact fun z => n4 (Option.some.inj z)
        | 5, _ => exact fun z => n5 (Option.some.inj z)
        | 6, _ => exact fun z => n6 (Option.some.inj z)
        | 7, _ => exact nofun
        | 8, _ => exact nofun
        | j + 9, _ => exact fun z => by simp at z
      have hsl := whole_len ho
      refine ss_one (s_ret (e_tup (ea_c (e_var 2) (ea_c (e_tupleX (ns := (whole r).2.map fun (k : Nat) => (k : Int)) B.tuple (EL.im ?_)) ea_nil))) ⟨rfl, rfl⟩)
      rw [List.map_map]
      refine el_mapL (g := fun (k : Nat) => PyData.int ((k : Int) - ((whole r).1 : Int))) 8 hnd (e_var 1) (by omega) (fun k hk s H C cl fp av => (e_add (e_var 2) (e_var 8)).is ?_)
      show PyData.int _ = PyData.int (k : Int)
      congr 1
      omega
end
end Tk
end
section
namespace Tk
open PySem PySem.Spec PyProof.Rows L2
def G_right (ds : List PD) (d : PD) : Prop := ∃ r t, okR r ∧ okR t ∧ r.length ≤ 60 ∧ t.length ≤ 60 ∧ ds = [dRow r, dRow t] ∧ d = .bool true
def G_alike (ds : List PD) (d : PD) : Prop := ∃ r t bk, okL r ∧ okL t ∧ ds = [dRow r, dRow t, bk] ∧ d = alikeD r t
theorem good_parted (l : List Nat) : good 3 (.tuple [.str "parted", dSt l]) := good_pair (show PyData.strOk "parted" = true by decide +kernel) (good_dSt 0 l)
theorem dSt_inj {a b : List Nat} : dSt a = dSt b ↔ a = b := ⟨fun h => by injection h with h; exact dNum_inj h, fun h => by rw [h]⟩
section
variable {P : Program} {wd : World} {K : PySem.W.Frag} {mg : Str → Option Value} {base : Heap}
theorem ok_L_right {f : Addr} {fd : FuncData} (B : Bt mg) (AL : CalD P wd K mg base CX0 7 "alike" palike [.non] (spD K G_alike)) (MP : CalD P wd K mg base CX0 3 "_law_map" pL_map [] (spD K (G_row fun r => dMp (mapOf r)))) (PH : CalD P wd K mg base CX0 9 "paper_holds" ppaper_holds [.non] (spD K G_holds)) (TB : CalD P wd K mg base CX0 9 "turned_back" pturned_back [.non] (spD K G_back))
    (MD : CalD P wd K mg base CX0 10 "_law_made" pL_made [] (spD K G_made)) (WH : CalD P wd K mg base CX0 2 "_law_whole" pL_whole [] (spD K (G_row fun r => dMp (whole r)))) (EN : CalD P wd K mg base CX0 5 "_law_ends" pL_ends [] (spD K G_ends)) (LE : CalD P wd K mg base CX0 2 "_law_left" pL_left [] (spD K G_left)) (F : FnP K "_law_right" sL_right [] f fd) :
    FnOk P wd K mg base CX0 11 f fd pL_right (spD K G_right) := by
  refine fn_okD F cL_right (fun ds d h => ?_) (fun cdv A outer s H E av ds d hr hG => ?_)
  · obtain ⟨_, _, _, _, _, _, rfl, _⟩ := h
    rfl
  obtain ⟨r, t, hro, hto, hrl, htl, rfl, rfl⟩ := hG
  have hnd := cL_right.nd
  have hrL : okL r := ⟨hro, by omega⟩
  have htL : okL t := ⟨hto, by omega⟩
  have rn := whole_n hro
  have tn := whole_n hto
  obtain ⟨m1, m2⟩ := made_ok hrL htL
  refine ss_cons (s_set 2 hnd (c_callN E0 AL hr (by decide) pass0 (ea_c (e_var 0) (ea_c (e_var 1) ea_nil)) ⟨r, t, .none, hrL, htL, rfl, rfl⟩) ?_)
  by_cases hm : mapOf r = mapOf t
  · rw [if_pos hm] at m2
    have ea : alikeD r t = .tuple [.str "alike", dPap [⟨0, r.length, t⟩]] := if_pos hm
    rw [ea]
    clear ea
    generalize hp : [(⟨0, r.length, t⟩ : Tn)] = p
    have pin : InR r p := by
      rw [← hp]
      exact all_in hrL htL
    have pgo : goP r p = some t := by
      rw [← hp, all_go, if_pos hm]
    have pln : p.length ≤ 1000 := by rw [← hp]; simp
    obtain ⟨b1, b2⟩ := back_ok _ _ _ pin pgo
    refine ss_cons (s_if (c := false) (t_w (w_or (c := false) (d := false) ((t_not (t_e (e_isi (x := .tuple [.str "alike", dPap p]) (c := true) (T := "tuple") B.isi B.tuple (e_var 2) (by decide +kernel) kit_tup))).is rfl) (fun _ => w_or1 ((t_neI (e_len (n := 2) B.len (e_var 2) rfl) e_int).is (by simp))))) nf fun _ => ss_nil ?_)
    refine ss_cons (s_if (c := true) (t_eq hr (c_call E0 MP hr (by decide) pass0 (ea_c (e_var 0) ea_nil) ⟨r, hrL, rfl, rfl⟩) (c_call E0 MP hr (by decide) pass0 (ea_c (e_var 1) ea_nil) ⟨t, htL, rfl, rfl⟩) (by rw [dMp_inj]; exact ⟨fun _ => rfl, fun _ => hm⟩) (good_dMp _) (good_dMp _)) (fun _ => ?_) tf)
    refine ss_cons (s_if (c := false) (t_w (w_or (c := false) (d := false) ((t_neS (e_ix (e_var 2) e_int (d := .str "alike") (atI_nat (j := 0) rfl)) e_str).is (by simp)) (fun _ => w_or1 ((t_notB (c_callN E0 PH hr (by decide) pass0 (ea_c (e_var 0) (ea_c (e_var 1) (ea_c (e_ix (e_var 2) e_int (d := dPap p) (atI_nat (j := 1) rfl)) ea_nil))) ⟨r, t, p, .none, htL, pin, rfl, rfl⟩) e_bl).is (by rw [decide_eq_true pgo]; rfl))))) nf fun _ => ss_nil ?_)
    refine ss_cons (s_if (c := false) ((t_notB (c_callN E0 PH hr (by decide) pass0 (ea_c (e_var 1) (ea_c (e_var 0) (ea_c (c_callN E0 TB hr (by decide) pass0 (ea_c (e_var 0) (ea_c (e_ix (e_var 2) e_int (d := dPap p) (atI_nat (j := 1) rfl)) ea_nil)) ⟨r, p, .none, pin, by rw [pgo]; rfl, pln, rfl, rfl⟩) ea_nil))) ⟨t, r, backP r p, .none, hrL, b2, rfl, rfl⟩) e_bl).is (by rw [decide_eq_true b1]; rfl)) nf fun _ => ss_nil ?_)
    refine ss_one (s_ret (e_isB (c_callN E0 PH hr (by decide) pass0 (ea_c (e_var 0) (ea_c (e_var 1) (ea_c (c_call E0 MD hr (by decide) pass0 (ea_c (e_var 0) (ea_c (e_var 1) ea_nil)) ⟨r, t, hrL, htL, rfl, rfl⟩) ea_nil))) ⟨r, t, madeP r t, .none, htL, m1, rfl, rfl⟩) e_bl) ⟨rfl, ?_⟩)
    rw [decide_eq_true m2]
    rfl
  · rw [if_neg hm] at m2
    have ea : alikeD r t = .tuple [.str "parted", dSt (List.range (max (whole r).1 (whole t).1))] := if_neg hm
    rw [ea]
    clear ea
    have n1 : (whole r).1 ≤ max (whole r).1 (whole t).1 := Nat.le_max_left ..
    have n2 : (whole t).1 ≤ max (whole r).1 (whole t).1 := Nat.le_max_right ..
    have n3 : max (whole r).1 (whole t).1 ≤ 480 := by omega
    have r1 := run_range hro n1
    have r2 := run_range hto n2
    have r3 := run_parts hro hto n1 n2 hm
    generalize hN : max (whole r).1 (whole t).1 = N at n1 n2 n3 r1 r2 r3 ⊢
    refine ss_cons (s_if (c := false) (t_w (w_or (c := false) (d := false) ((t_not (t_e (e_isi (x := .tuple [.str "parted", dSt (List.range N)]) (c := true) (T := "tuple") B.isi B.tuple (e_var 2) (by decide +kernel) kit_tup))).is rfl) (fun _ => w_or1 ((t_neI (e_len (n := 2) B.len (e_var 2) rfl) e_int).is (by simp))))) nf fun _ => ss_nil ?_)
    refine ss_cons (s_if (c := false) (t_eq hr (c_call E0 MP hr (by decide) pass0 (ea_c (e_var 0) ea_nil) ⟨r, hrL, rfl, rfl⟩) (c_call E0 MP hr (by decide) pass0 (ea_c (e_var 1) ea_nil) ⟨t, htL, rfl, rfl⟩) (by rw [dMp_inj]; exact ⟨fun z => absurd z hm, nf⟩) (good_dMp _) (good_dMp _)) nf (fun _ => ss_nil ?_))
    refine ss_cons (s_set 3 hnd ((e_max rfl B.max (e_ix (c_call E0 WH hr (by decide) pass0 (ea_c (e_var 0) ea_nil) ⟨r, hrL, rfl, rfl⟩) e_int (d := dI (whole r).1) (atI_nat (j := 0) rfl)) (e_ix (c_call E0 WH hr (by decide) pass0 (ea_c (e_var 1) ea_nil) ⟨t, htL, rfl, rfl⟩) e_int (d := dI (whole t).1) (atI_nat (j := 0) rfl))).is (d' := dI N) ?_) ?_)
    · rw [← hN]
      show PyData.int _ = PyData.int _
      congr 1
      split <;> omega
    refine ss_cons (s_set 4 hnd (e_tuple B.tuple (EL.im (el_mapR (h := dNum) 5 hnd B.range (e_var 3) (by omega) (fun i s H C cl fp av => e_tup (ea_c e_str (ea_c (e_var 5) ea_nil)))))) ?_)
    have hsl : (List.range N).length ≤ 10000 := by rw [List.length_range]; omega
    have hsl' : ((List.range N).map dNum).length ≤ 10000 := by rw [List.length_map]; exact hsl
    refine ss_cons (s_if (c := false) (t_w (w_or (c := false) (d := false) ((t_ne (c := true) (n := 3) (n' := 3) hr (e_var 2) (e_tup (ea_c e_str (ea_c (e_var 4) ea_nil))) ⟨fun _ => rfl, fun _ => rfl⟩ (good_parted _) (good_parted _)).is rfl) (fun _ => w_or (c := false) (d := false) ((t_not (t_e (c_call E0 EN hr (by decide) pass0 (ea_c (e_var 0) (ea_c (e_var 4) ea_nil)) ⟨r, List.range N, hrL, hrl, hsl, r1.1, ⟨_, r1.2⟩, rfl, rfl⟩))).is rfl) (fun _ => w_or1 ((t_not (t_e (c_call E0 EN hr (by decide) pass0 (ea_c (e_var 1) (ea_c (e_var 4) ea_nil)) ⟨t, List.range N, htL, htl, hsl, r2.1, ⟨_, r2.2⟩, rfl, rfl⟩))).is rfl))))) nf fun _ => ss_nil ?_)
    refine ss_cons (s_if (c := false) (t_eq (n := 2) (n' := 2) hr (c_call E0 LE hr (by decide) pass0 (ea_c (e_var 0) (ea_c (e_var 4) ea_nil)) ⟨r, (List.range N).map dNum, hrL, r1.1, hsl', rfl, rfl⟩) (c_call E0 LE hr (by decide) pass0 (ea_c (e_var 1) (ea_c (e_var 4) ea_nil)) ⟨t, (List.range N).map dNum, htL, r2.1, hsl', rfl, rfl⟩) ⟨fun z => absurd (by injection z) r3, nf⟩ (by rw [r1.2]; exact good_dSt 0 _) (by rw [r2.2]; exact good_dSt 0 _)) nf fun _ => ss_nil ?_)
    refine ss_one (s_ret (e_isB (c_callN E0 PH hr (by decide) pass0 (ea_c (e_var 0) (ea_c (e_var 1) (ea_c (c_call E0 MD hr (by decide) pass0 (ea_c (e_var 0) (ea_c (e_var 1) ea_nil)) ⟨r, t, hrL, htL, rfl, rfl⟩) ea_nil))) ⟨r, t, madeP r t, .none, htL, m1, rfl, rfl⟩) e_bl) ⟨rfl, ?_⟩)
    rw [m2]
    rfl
end
end Tk
end
section
namespace Tk
open PySem PySem.Spec PyProof.Rows L2
def RowP (n : Nat) (d : PD) : Prop := ∃ r : List Wd, okR r ∧ r.length ≤ n ∧ d = dRow r
theorem RowP.mono {n k : Nat} {d : PD} (h : RowP n d) (q : n ≤ k) : RowP k d := by
  obtain ⟨r, h1, h2, h3⟩ := h
  exact ⟨r, h1, Nat.le_trans h2 q, h3⟩
def stillR : List (List Wd) := [[⟨2, [1, 0]⟩, ⟨2, [1, 0]⟩], [⟨1, [0, 0]⟩, ⟨1, []⟩], [⟨3, [1, 2, 0]⟩, ⟨3, [2, 0, 1]⟩], [⟨0, []⟩], [⟨2, [0, 1, 0]⟩, ⟨1, []⟩, ⟨2, [0, 1]⟩]]
theorem still_ok : ∀ r ∈ stillR, okR r ∧ r.length ≤ 3 := by
  intro r h
  simp only [stillR, List.mem_cons, List.not_mem_nil, or_false] at h
  rcases h with rfl | rfl | rfl | rfl | rfl <;> refine ⟨fun w hw => ?_, by decide⟩ <;> simp only [List.mem_cons, List.not_mem_nil, or_false] at hw
  · rcases hw with rfl | rfl <;> exact ⟨by decide, by decide, by decide⟩
  · rcases hw with rfl | rfl <;> exact ⟨by decide, by decide, by decide⟩
  · rcases hw with rfl | rfl <;> exact ⟨by decide, by decide, by decide⟩
  · subst hw
    exact ⟨by decide, by decide, by decide⟩
  · rcases hw with rfl | rfl | rfl <;> exact ⟨by decide, by decide, by decide⟩
def G_other (ds : List PD) (d : PD) : Prop := ∃ r, ds = [dRow r] ∧ RowP (max 20 (r.length + 3)) d
theorem cutF (ds : List PD) (n : Nat) : cutP ds (some (n : Int)) none = ds.drop n := by
  unfold cutP
  rw [HT.sIx_nat, HT.sIx_none]
  rcases Nat.le_total n ds.length with h | h
  · rw [Nat.min_eq_left h, List.take_of_length_le (Nat.le_of_eq (by rw [List.length_drop]))]
  · rw [Nat.min_eq_right h, List.drop_length, List.drop_of_length_le h, List.take_nil]
theorem drop_map {α : Type} (g : α → PD) (xs : List α) (n : Nat) : (xs.map g).drop n = (xs.drop n).map g := (List.map_drop ..).symm
section
variable {X : Cx} {m : Mm} {e a b : Expr} {ρ : List Sl} {pos p p2 : Pos}
theorem e_catR {n k : Nat} (ha : E X m a ρ (RowP n)) (hb : E X m b ρ (RowP k)) (h : n + k ≤ 1000) : E X m (.BinOp a .Add b pos) ρ (RowP (n + k)) :=
  e_binP (Pb := fun _ y => RowP k y) op_catA ha (fun _ _ => hb) fun x y ⟨r, r1, r2, hx⟩ ⟨t, t1, t2, hy⟩ => by
    subst hx hy
    refine (r2_catA (by rw [List.length_map, List.length_map]; omega)).mono ?_
    rintro d rfl
    exact ⟨r ++ t, r1.append t1, by rw [List.length_append]; omega, by unfold dRow; rw [List.map_append]⟩
/-- a row cut -/
theorem e_cutT {r : List Wd} {n : Nat} {hi : Expr} (hr : okR r) (hn : n ≤ r.length) (ha : E X m a ρ (· = dRow r)) (hh : E X m hi ρ (· = dI n)) : E X m (.Subscript a (.Slice none (some hi) none p2) pos) ρ (RowP n) :=
  (e_slT ha o_none (o_some hh)).mono fun d hd => by
    rw [cut_to hn] at hd
    exact ⟨r.take n, hr.take n, by rw [List.length_take]; omega, hd⟩
theorem e_cutD {r : List Wd} {n : Nat} {lo : Expr} (hr : okR r) (ha : E X m a ρ (· = dRow r)) (hl : E X m lo ρ (· = dI n)) : E X m (.Subscript a (.Slice (some lo) none none p2) pos) ρ (RowP (r.length - n)) :=
  (e_slT ha (o_some hl) o_none).mono fun d hd => by
    rw [cutF, drop_map] at hd
    exact ⟨r.drop n, hr.drop n, by rw [List.length_drop]; exact Nat.le_refl _, hd⟩
theorem e_oneW {k' : Nat} (ha : E X m a ρ (fun d => ∃ w : Wd, w.ok ∧ d = dW w)) (he : starEach [a] X.env = (false, eval a X.env) :: starEach [] X.env := by rfl) : E X m (.Tuple [a] k' pos) ρ (RowP 1) :=
  (e_tupP (ea_cP ha ea_nil he) (by show 1 ≤ 1000000; decide)).mono fun d ⟨ds, e1, d2, r2, e2, ⟨w, hw, e3⟩, e4⟩ => by
    subst e1 e2 e3
    have e4' : r2 = [] := e4
    subst e4'
    exact ⟨[w], okR_one hw, Nat.le_refl _, rfl⟩
theorem t_inI {i : Int} {ns : List Int} (ha : E X m a ρ (· = .int i)) (hb : E X m b ρ (· = .tuple (ns.map .int))) (hm : behindInMarks .In b = false := by rfl) : T X m (.Compare a [.In] [b] pos) ρ (decide (i ∈ ns)) := t_cmp op_in_seq ha hb (fun H0 vx vy H o rx ry Q k => by
  cases rx
  cases ry with
  | tup h1 r1 =>
    rw [r1.ints] at h1
    refine ⟨_, _, rfl, .inr h1, rfl, flat_ints ns, ?_⟩
    have := k (.bl (decide (i ∈ ns))) _ H (Kp.refl _ _) o (.bl _) rfl
    rw [← inV_int] at this
    exact this) hm
end
section
variable {P : Program} {wd : World} {K : PySem.W.Frag} {mg : Str → Option Value} {base : Heap}
theorem ok_L_other {f : Addr} {fd : FuncData} (B : Bt mg) (DR : CalD P wd K mg base CX0 2 "_law_draw" pL_draw [] (spK K A_draw G_draw)) (WO : CalD P wd K mg base CX0 4 "_law_word" pL_word [] (spK K (· = []) G_word)) (RO : CalD P wd K mg base CX0 5 "_law_row" pL_row [] (spK K (· = [dI 20]) G_drow)) (WI : CalD P wd K mg base CX0 1 "_law_wider" pL_wider [] (spD K G_wider)) (TO : CalD P wd K mg base CX0 3 "_law_together" pL_together [] (spD K G_tog))
    (F : FnP K "_law_other" sL_other [] f fd) : FnOk P wd K mg base CX0 6 f fd pL_other (spK K (fun ds => ∃ r, okR r ∧ r.length ≤ 57 ∧ ds = [dRow r]) G_other) := by
  refine fn_okK F cL_other (fun ds h => ?_) (fun cdv A outer s H E av p ds hr hA => ?_)
  · obtain ⟨_, _, _, rfl⟩ := h
    rfl
  obtain ⟨r, hro, hrl, rfl⟩ := hA
  have hnd := cL_other.nd
  have elen : plen (dRow r) = some r.length := by
    show some (r.map dW).length = _
    rw [List.length_map]
  refine ss_cons (s_setP (P := fun d => ∃ k : Nat, k < 7 ∧ d = dI k) 2 hnd (k_draw 0 7 DR hr (by decide) rfl (by omega) (by omega) e_int) ?_)
  rintro d ⟨k, hk, rfl⟩
  refine ss_cons (s_setP (P := fun d => ∃ k : Nat, k < r.length + 1 ∧ d = dI k) 3 hnd (k_draw 0 (r.length + 1) DR hr (by decide) rfl (by omega) (by omega) ((e_add (e_len B.len (e_var 1) elen) e_int).is (by congr 1))) ?_)
  rintro d ⟨at_, ha, rfl⟩
  refine ss_cons (s_set 4 hnd ((el_lst (ea_c (e_tup (ea_c e_str (ea_c e_str ea_nil))) (ea_c (e_tup (ea_c e_str (ea_c e_str ea_nil))) (ea_c (e_tup (ea_c e_str (ea_c e_str ea_nil))) (ea_c (e_tup (ea_c e_str ea_nil)) (ea_c (e_tup (ea_c e_str (ea_c e_str (ea_c e_str ea_nil)))) ea_nil)))))).im.is (d' := .list (stillR.map dRow)) ?_) ?_)
  · rw [show stillR.map dRow = (stillR.map fun r => r.map wtx).map (fun z => PyData.tuple (z.map .str)) from by rw [List.map_map]; exact List.map_congr_left fun x _ => by show PyData.tuple (x.map dW) = PyData.tuple ((x.map wtx).map .str); rw [List.map_map]; rfl]
    rw [show (stillR.map fun r => r.map wtx) = ([["ab-ba", "ab-ba"], ["a-aa", "a-"], ["abc-bca", "abc-cab"], ["-"], ["ab-aba", "a-", "ab-ab"]] : List (List Str)) from by decide +kernel]
    rfl
  have fin : ∀ {n : Nat} {d : PD}, RowP n d → n ≤ r.length + 3 → G_other [dRow r] d := fun h q => ⟨r, rfl, h.mono (by omega)⟩
  refine ss_cons (s_if (t_eqI (e_var 2) e_int) (fun z => ?_) (fun z => ss_nil ?_))
  · refine ss_one (s_retP (e_catR (e_catR (e_cutT hro (show at_ ≤ r.length by omega) (e_var 1) (e_var 3)) (e_ixP (P := RowP 3) (Pa := (· = .list (stillR.map dRow))) (Pb := fun _ y => ∃ k : Nat, k < 5 ∧ y = dI k) (e_var 4) (fun _ _ => k_draw 0 5 DR hr (by decide) rfl (by omega) (by omega) e_int) ?_) (by omega)) (e_cutD hro (e_var 1) (e_var 3)) (by omega)) fun d hd => ⟨rfl, fin hd (by omega)⟩)
    rintro x y rfl ⟨j, hj, rfl⟩
    obtain ⟨q, hq⟩ : ∃ q, stillR[j]? = some q := ⟨_, List.getElem?_eq_getElem (show j < stillR.length from hj)⟩
    obtain ⟨q1, q2⟩ := still_ok q (List.mem_of_getElem? hq)
    exact ⟨_, _, _, .inr rfl, rfl, atI_map hq, q, q1, q2, rfl⟩
  refine ss_cons (s_if (c := decide (k = 1) && decide (at_ < r.length)) (t_w (w_and ((t_eqI (e_var 2) e_int).is (decide_eq_decide.mpr (by omega))) fun _ => w_and1 ((t_lt (e_var 3) (e_len B.len (e_var 1) elen)).is (decide_eq_decide.mpr (by omega))))) (fun z => ?_) (fun z => ss_nil ?_))
  · simp only [Bool.and_eq_true, decide_eq_true_iff] at z
    have hw : r[at_]? = some r[at_] := List.getElem?_eq_getElem z.2
    have hwo := hro _ (List.mem_of_getElem? hw)
    exact ss_one (s_retP (e_catR (e_catR (e_cutT hro (show at_ ≤ r.length by omega) (e_var 1) (e_var 3)) (e_oneW ((c_call E0 WI hr (by decide) pass0 (ea_c (e_ix (e_var 1) (e_var 3) (atI_map hw)) ea_nil) ⟨r[at_], hwo, rfl, rfl⟩).mono fun d hd => ⟨_, widerW_ok hwo, hd⟩)) (by omega)) (e_cutD (n := at_ + 1) hro (e_var 1) ((e_add (e_var 3) e_int).is (by congr 1))) (by omega)) fun d hd => ⟨rfl, fin hd (by omega)⟩)
  -- two neighbours as one
  have two : at_ + 1 < r.length → ∃ v w, v.ok ∧ w.ok ∧ atI (r.map dW) (at_ : Int) = some (dW v) ∧ atI (r.map dW) ((at_ + 1 : Nat) : Int) = some (dW w) := fun h => by
    have h1 : r[at_]? = some r[at_] := List.getElem?_eq_getElem (by omega)
    have h2 : r[at_ + 1]? = some r[at_ + 1] := List.getElem?_eq_getElem h
    exact ⟨_, _, hro _ (List.mem_of_getElem? h1), hro _ (List.mem_of_getElem? h2), atI_map h1, atI_map h2⟩
  have rest : SS (cxOf CX0 P wd K mg base NL_other "_law_other" (defScope sL_other) f cdv A outer s H E).nox ((defBody sL_other).drop 6) ⟨av, .deck p⟩ [.mu, .im (dRow r), .im (dI k), .im (dI at_), .im (.list (stillR.map dRow))] (retK p (G_other [dRow r])) := by
    refine ss_cons (s_if (c := decide (k = 3) && decide (at_ < r.length)) (t_w (w_and ((t_eqI (e_var 2) e_int).is (decide_eq_decide.mpr (by omega))) fun _ => w_and1 ((t_lt (e_var 3) (e_len B.len (e_var 1) elen)).is (decide_eq_decide.mpr (by omega))))) (fun z => ?_) (fun z => ss_nil ?_))
    · simp only [Bool.and_eq_true, decide_eq_true_iff] at z
      exact ss_one (s_retP (e_catR (e_catR (e_cutT hro (show at_ ≤ r.length by omega) (e_var 1) (e_var 3)) (e_oneW ((k_call (CX := CX0) (n := 4) (A := (· = [])) (G := G_word) (ds := []) 0 E0 WO hr (by decide) pass0 rfl ea_nil rfl).mono fun d hd => hd)) (by omega)) (e_cutD (n := at_ + 1) hro (e_var 1) ((e_add (e_var 3) e_int).is (by congr 1))) (by omega)) fun d hd => ⟨rfl, fin hd (by omega)⟩)
    refine ss_cons (s_if (t_eqI (e_var 2) e_int) (fun z => ?_) (fun z => ss_nil ?_))
    · exact ss_one (s_retP (e_catR (e_cutT hro (show at_ ≤ r.length by omega) (e_var 1) (e_var 3)) (e_cutD (n := at_ + 1) hro (e_var 1) ((e_add (e_var 3) e_int).is (by congr 1))) (by omega)) fun d hd => ⟨rfl, fin hd (by omega)⟩)
    · refine ss_one (s_retP (k_call (CX := CX0) (n := 5) (A := (· = [dI 20])) (G := G_drow) (ds := [dI 20]) 0 E0 RO hr (by decide) pass0 rfl (ea_c e_int ea_nil) rfl) fun d hd => ⟨rfl, r, rfl, ?_⟩)
      obtain ⟨q, q1, q2, q3⟩ := hd
      exact ⟨q, q1, by omega, q3⟩
  by_cases hin : ((k : Int) ∈ [2, 5]) ∧ at_ + 1 < r.length
  · obtain ⟨v, w, hv, hw, a1, a2⟩ := two hin.2
    have eN : (!isNone (dO (togW v w))) = (togW v w).isSome := by cases togW v w <;> rfl
    refine ss_cons (s_if (c := (togW v w).isSome) ((t_w (w_and (c := true) (d := (togW v w).isSome) ((t_inI (ns := [2, 5]) (e_var 2) ((e_tup (ea_c e_int (ea_c e_int ea_nil))).is rfl)).is (decide_eq_true hin.1)) fun _ => w_and (c := true) (d := (togW v w).isSome) ((t_lt ((e_add (e_var 3) e_int).is (d' := dI (at_ + 1)) (by congr 1)) (e_len B.len (e_var 1) elen)).is (decide_eq_true (by omega))) fun _ => w_and1 ((t_notN (c_call E0 TO hr (by decide) pass0 (ea_c (e_ix (e_var 1) (e_var 3) a1) (ea_c (e_ix (e_var 1) ((e_add (e_var 3) e_int).is (d' := dI (at_ + 1)) (by congr 1)) a2) ea_nil)) ⟨v, w, hv, hw, rfl, rfl⟩) e_non).is eN))).is rfl) (fun z => ?_) (fun z => ss_nil ?_))
    · obtain ⟨u, hu⟩ := Option.isSome_iff_exists.mp z
      exact ss_one (s_retP (e_catR (e_catR (e_cutT hro (show at_ ≤ r.length by omega) (e_var 1) (e_var 3)) (e_oneW ((c_call E0 TO hr (by decide) pass0 (ea_c (e_ix (e_var 1) (e_var 3) a1) (ea_c (e_ix (e_var 1) ((e_add (e_var 3) e_int).is (d' := dI (at_ + 1)) (by congr 1)) a2) ea_nil)) ⟨v, w, hv, hw, rfl, rfl⟩).mono fun d hd => ⟨u, (tog_ok hv hw hu).1, by rw [hd, hu]; rfl⟩)) (by omega)) (e_cutD (n := at_ + 2) hro (e_var 1) ((e_add (e_var 3) e_int).is (by congr 1))) (by omega)) fun d hd => ⟨rfl, fin hd (by omega)⟩)
    · exact rest
  · refine ss_cons (s_if (c := false) ((t_w (w_and (c := decide ((k : Int) ∈ ([2, 5] : List Int))) (d := false) (t_inI (ns := [2, 5]) (e_var 2) ((e_tup (ea_c e_int (ea_c e_int ea_nil))).is rfl)) fun z => w_and (c := false) (d := false) ((t_lt ((e_add (e_var 3) e_int).is (d' := dI (at_ + 1)) (by congr 1)) (e_len B.len (e_var 1) elen)).is (decide_eq_false fun q => hin ⟨of_decide_eq_true z, by omega⟩)) nf)).is (Bool.and_false _)) nf fun z => ss_nil ?_)
    exact rest
end
end Tk
end
section
namespace PySem
open Sem (wp)
open AutoSeq1 (wpAny_loadPart')
/-- enumerate(t), t a tuple: its two new cells -/
theorem tk_enum_new (l : Addr) (items : Array Value) (n : Nat) (dct : Option Addr) (sl : Array (Option Value)) :
    Meets (Builtin.«enumerate.__new__» ⟨[.type "enumerate", .ref l], []⟩) (fun _ R s => s.heap.get? l = some { cls := .type "tuple", dict := dct, data := .seq items n, slots := sl } ∧ R (.ok (.ret (.ref (s.heap.push { cls := .type "tuple_iterator", data := .fields #[.ref l, .int 0 0] }).objs.size)))
        { s with heap := (s.heap.push { cls := .type "tuple_iterator", data := .fields #[.ref l, .int 0 0] }).push { cls := .type "enumerate", data := .fields #[.none, .bool false, .ref s.heap.objs.size, rawInt 0, .none, .none] } }) :=
  .of_wp fun prog w A R s ⟨hl, h⟩ => by
    obtain ⟨hp, g, d, tk, os⟩ := s
    have tkSub := sub_enumerate
    have hT : Heap.IsTuple (Shared.heap ⟨hp, g, d, tk, os⟩) l items := ⟨_, hl, rfl, n, rfl⟩
    wp_walk using wpAny_loadPart' hl
    refine wpAny_stack_any fun st => wpAny_pure ?_
    split
    · rename_i c _ _ _ _ _
      cases (c == Value.type "enumerate") <;> (wp_walk using wpAny_loadPart' hl, wpAny_pyIter_tuple hT) <;> exact ⟨_, rfl, h⟩
    · wp_walk using wpAny_loadPart' hl, wpAny_pyIter_tuple hT
      exact ⟨_, rfl, h⟩
theorem tk_enum_tuple {prog : Program} {w : World} {A : Around} {E : Value → Shared → Prop} {s : Shared} {l : Addr} {items : Array Value} {Q : Value → Shared → Prop} (hL : s.heap.IsTuple l items)
    (h : ∀ h', IsEnum h' (s.heap.objs.size + 1) s.heap.objs.size 0 .none → h'.IsTupleIter s.heap.objs.size l 0 → h'.objs.size = s.heap.objs.size + 2 → (∀ b o, s.heap.get? b = some o → h'.get? b = some o) → Q (.ref (s.heap.objs.size + 1)) { s with heap := h' }) :
    wpAny (model prog w) A (call (.type "enumerate") [.ref l]) Q E s := by
  obtain ⟨⟨c, dct, dt, sl⟩, hl, hc, n, hd⟩ := hL
  obtain rfl : c = .type "tuple" := hc
  obtain rfl : dt = .seq items n := hd
  refine callType_new F.called_enumerate (by decide) (F.typeCall_enumerate_1 _) (F.newCall_enumerate_1 _) (fun obj => F.args_object_init_2 obj _) F.entry_enumerate_new (tk_enum_new l items n dct sl) ⟨hl, ?_⟩
  generalize ho : ({ cls := .type "tuple_iterator", data := .fields #[.ref l, .int 0 0] } : Obj) = oi
  have hz : (s.heap.push oi).objs.size = s.heap.objs.size + 1 := Heap.size_push ..
  rw [hz]
  generalize hoe : ({ cls := .type "enumerate", data := .fields #[.none, .bool false, .ref s.heap.objs.size, rawInt 0, .none, .none] } : Obj) = oe
  have he : ((s.heap.push oi).push oe).get? (s.heap.objs.size + 1) = some oe := by
    rw [← hz]
    exact Heap.get?_push_size _ (by rw [← hoe]; rfl)
  have hi : ((s.heap.push oi).push oe).get? s.heap.objs.size = some oi := Heap.get?_push_of_some _ (Heap.get?_push_size _ (by rw [← ho]; rfl))
  refine ⟨⟨_, he, by rw [← hoe]⟩, h _ (by rw [← hoe] at he ⊢; exact he) ⟨_, hi, by rw [← ho], by rw [← ho]; rfl⟩ (by rw [Heap.size_push, hz]) fun b o x => Heap.get?_push_of_some _ (Heap.get?_push_of_some _ x)⟩
end PySem
namespace Tk
open PySem PySem.Spec PyProof.Rows L2
/-- the tuple at a, each item in a new pair -/
def IeT (K : PySem.W.Frag) (a : Addr) : It :=
  ⟨fun i H => ∃ (xs : List V) (x : V), SqT K H a xs ∧ xs[i]? = some x, fun i H v H' => ∃ T x, v = .ref T ∧ H T = none ∧ H' = upd H T (.tup [.int (i : Nat), x]) ∧ ∀ xs, SqT K H a xs → xs[i]? = some x,
    fun i H => ∃ xs : List V, SqT K H a xs ∧ xs.length ≤ i⟩
theorem turn_eT {P : Program} {w : World} {K : PySem.W.Frag} {elts : List Expr} {kk : Nat} {tpos : Pos} (a e it : Addr) :
    Turn P w K (.Tuple elts kk tpos) (IeT K a) [e, it] e (fun i h => (∃ old, IsEnum h e it ((i : Nat) : Int) old) ∧ h.IsTupleIter it a i ∧ e ≠ it ∧ a ≠ it ∧ e ≠ a) where
  mem := by simp
  obj := fun i h st b hb => by
    obtain ⟨⟨old, he⟩, ⟨o, ho, hc, hd⟩, _⟩ := st
    rcases (show b = e ∨ b = it by simpa using hb) with rfl | rfl
    · exact ⟨_, he, fun v q => nomatch q⟩
    · exact ⟨o, ho, fun v q => by rw [hd] at q; cases q⟩
  keep := fun i h h' st k => by
    obtain ⟨⟨old, he⟩, hi, hne⟩ := st
    exact ⟨⟨old, k e (by simp) _ he⟩, hi.at fun o q => k it (by simp) o q, hne⟩
  item := by
    rintro X rfl rfl rfl hc i pins s σ H E I hf ⟨⟨old, he⟩, hit, hne, hai, hea⟩ ⟨xs, x, hq, hx⟩
    obtain ⟨its, rv, p, hz⟩ := I.tuple hq
    obtain ⟨u, hu, ru⟩ := rv.get hx
    have hel : e < s.heap.objs.size := Heap.lt_size he
    have hil : it < s.heap.objs.size := by
      obtain ⟨_, q, _⟩ := hit
      exact Heap.lt_size q
    have hh : X.A.in1.handled = none := I.ok.hd hc
    refine wpAny_pyNext_enum_itemD (Draws.tuple hh it a hai its.toArray) he ⟨hit, p⟩ (by rw [List.size_toArray]; exact (List.getElem?_eq_some_iff.mp hu).1) hne (by simp; exact ⟨hne, hea⟩) fun y h' tk hy ho st' hT hsz hk => ?_
    obtain rfl : y = u := by
      have h1 : its.toArray[i]? = some y := hy
      have h2 : its.toArray[i]? = some u := by simpa using hu
      rw [h1] at h2
      exact Option.some.inj h2
    refine ⟨_, rfl, wpAny_letOwnedTupleGo_enum (s := { s with heap := h', toks := tk + 1 }) ho fun h'' he' sb => ?_⟩
    have hT2 : h''.get? s.heap.objs.size = some { cls := .type "tuple", data := .seq #[.int i tk, y] } := (sb.2 _ (Nat.ne_of_gt hel)).trans hT
    have new : ObjOk X.prog X.w (upd H s.heap.objs.size (.tup [.int (i : Nat), x])) h'' s.heap.objs.size (.tup [.int (i : Nat), x]) := ⟨by show 2 ≤ sizeLine; decide, [.int i tk, y], .cons ⟨_, rfl⟩ (.cons ru .nil), ⟨_, hT2, rfl, _, rfl⟩⟩
    have I1 : Inv X pins σ (upd H s.heap.objs.size (.tup [.int (i : Nat), x])) { s with heap := h'', toks := tk + 1 } :=
      I.turnedNew (ch := [e, it]) (fun b ob hb q => (sb.2 b (fun z => hb (by simp [z]))).trans (hk b ob (fun z => hb (by simp [z])) (fun z => hb (by simp [z])) q)) hf (Nat.le_refl _) new
    refine ⟨.ref s.heap.objs.size, _, I1, rfl, ⟨_, x, rfl, I.hok.fresh (Nat.le_refl _), rfl, fun ys hy => by rw [I.tuple_inj hy hq]; exact hx⟩, ⟨⟨y, ?_⟩, st'.1.at fun o q => (sb.2 it (Ne.symm hne)).trans q, hne, hai, hea⟩, fun b hb => ?_⟩
    · have e1 : ((i + 1 : Nat) : Int) = (i : Int) + 1 := by omega
      rw [e1]
      exact he'
    · have hb' : b < s.heap.objs.size := by
        rcases (show b = e ∨ b = it by simpa using hb) with z | z <;> rw [z]
        · exact hel
        · exact hil
      rw [upd_ne (Nat.ne_of_lt hb')]
      exact (hf b hb).1
  done := by
    rintro X rfl rfl rfl hc i pins s σ H E I hf ⟨⟨old, he⟩, hit, hne, hai, hea⟩ ⟨xs, hq, hx⟩
    obtain ⟨its, rv, p, hz⟩ := I.tuple hq
    obtain ⟨f0, f1, f2, f3, f4, f5⟩ := hf it (by simp)
    have hl := rv.length
    have hh : X.A.in1.handled = none := I.ok.hd hc
    have D : Draws X.prog X.w X.A.in1 it [it, a] 0 (fun _ _ => True) (fun _ h => h.IsTupleIter it a i ∧ h.IsTuple a its.toArray) :=
      ⟨fun _ _ st => let ⟨o, ho, _⟩ := st.1; ⟨o, ho⟩, fun _ _ _ st hk => ⟨st.1.at fun o e => hk it (by simp) o e, st.2.at fun o e => hk a (by simp) o e⟩, fun _ _ _ _ z => absurd z (Nat.not_lt_zero _), fun s Q E st hE => wpAny_nextOf_tuple_end hh st.1 st.2 (by simp; omega) hE⟩
    exact wpAny_pyNext_enum_endD D he ⟨hit, p⟩ fun h' eb => ⟨rfl, I.turned (t' := s.toks) (fun b o hb q => eb b o hb q) f0 f1 f3 f4 f5⟩
  self := fun A i s Q E st h => let ⟨⟨_, he⟩, _⟩ := st; wpAny_pyIter_enum he h
def iEnT (K : PySem.W.Frag) (ta : TA) : TI := fun σ H R => ta σ H fun vs H1 => ∃ a, vs = [.ref a] ∧ (∃ xs, SqT K H1 a xs) ∧ R (IeT K a) H1
theorem pi_eT {X : Cx} {e : Expr} {ta : TA} {p pos tpos : Pos} {elts : List Expr} {kk : Nat} (hg : Gl X "enumerate") (hm : X.mg "enumerate" = none) (ha : PA X [e] ta) (hs : starEach [e] X.env = [(false, eval e X.env)] := by rfl) :
    PI X (.Tuple elts kk tpos) (.Call (.Name "enumerate" p) [e] [] pos) (iEnT X.K ta) := by
  refine ⟨fun pins s σ H R I h => Call_ (ld_blt I hg hm boot_enumerate (PyProof.Rows.callWith_type1 (thn (ha.run pos pins s σ H _ I h) fun us s1 ⟨vs, H1, I1, r1, q1⟩ => ?_) hs rfl))⟩
  obtain ⟨a, rfl, ⟨xs, hq⟩, q⟩ := q1
  cases r1 with
  | cons r rr =>
    cases rr
    cases r
    obtain ⟨its, rv, p', hz⟩ := I1.tuple hq
    refine tk_enum_tuple p' fun h' he hit hsz hk => wpAny_pyIter_enum he ?_
    have hal : a < s1.heap.objs.size := by
      obtain ⟨_, q, _⟩ := p'
      exact Heap.lt_size q
    refine ⟨s1.heap.objs.size + 1, [s1.heap.objs.size + 1, s1.heap.objs.size], _, _, H1, rfl, I1.kept (t' := s1.toks) hk, turn_eT a (s1.heap.objs.size + 1) s1.heap.objs.size, ⟨⟨.none, he⟩, hit, Nat.succ_ne_self _, Nat.ne_of_lt hal, Ne.symm (Nat.ne_of_lt (Nat.lt_succ_of_lt hal))⟩, fun b hb => ?_, q⟩
    have hle : s1.heap.objs.size ≤ b := by
      rcases (show b = s1.heap.objs.size + 1 ∨ b = s1.heap.objs.size by simpa using hb) with z | z
      · exact z ▸ Nat.le_succ _
      · exact z ▸ Nat.le_refl _
    exact I1.fpOk hle (I1.hok.fresh hle)
end Tk
end
section
namespace Tk
open PySem PySem.Spec PyProof.Rows L2
def TB (X : Cx) (scope : Scope) (mu : Mu) (e : Expr) (ρ : List Sl) (b : Bool) : Prop := ∀ s H C cl fp av, T (Cx.bk X scope s H C cl fp) ⟨av, mu⟩ e ρ b
def wTB (X : Cx) (scope : Scope) (e : Expr) : TT := fun σ H Q => ∀ s Hh C cl fp, WT (Cx.bk X scope s Hh C cl fp) e σ H Q
section
variable {X : Cx} {m : Mm} {e a b : Expr} {es : List Expr} {ρ : List Sl} {P : PD → Prop} {pos p p2 : Pos} {k : Nat}
theorem pt_wTB {scope : Scope} (s : Shared) (H : Hp) (C : Addr) (cl : List (Str × Addr)) (fp : List Addr) : PT (X.blk s H scope (compEnvC scope cl C X.env) fp) e (wTB X scope e) := ⟨fun pins s' σ H' Q I h => (h s H C cl fp).run pins s' I⟩
theorem cw_dk {H0 H1 : Hp} {av0 : Addr → Prop} {D : Addr} {σ : L2.St} (en : Env' X.K H0 av0 m σ H1 ρ) (hD : H1 D = none) : ∀ p, m.dk = some p → p ≠ D := fun p z q => by
  have := en.ok.dom p (en.ok.dkav p z)
  rw [q, hD] at this
  exact this rfl
/-- within the comprehension -/
theorem cw_env {H0 H1 H' : Hp} {av0 : Addr → Prop} {D : Addr} {Pe : Nat → PD → Prop} {σ : L2.St} {i : Nat} (en : Env' X.K H0 av0 m σ H1 ρ) (hD : H1 D = none) (c : Cw X H0 m H1 D Pe i H') : Env' X.K H0 av0 (wide m D) σ H' ρ := by
  obtain ⟨k1, o1, _⟩ := c
  refine ⟨by rw [wide_dk]; exact en.fr.trans k1, fun q z => .inl (en.sub q z), en.dom0, o1, en.len, fun n sl q => ?_⟩
  obtain ⟨o, h1, h2⟩ := en.at_ n sl q
  refine ⟨o, h1, ?_⟩
  cases sl with
  | no => trivial
  | im d' =>
    obtain ⟨v, e1, r⟩ := h2
    exact ⟨v, e1, r.wide k1 en.ok.dkav hD⟩
  | mu => exact h2
theorem cw_keep {H0 H1 H' H3 : Hp} {av0 : Addr → Prop} {D : Addr} {Pe : Nat → PD → Prop} {σ : L2.St} {i : Nat} (en : Env' X.K H0 av0 m σ H1 ρ) (hD : H1 D = none) (c : Cw X H0 m H1 D Pe i H') (k : Kp m.dk H' H3) (o : MuOk X.K H0 (wide m D) H3) : Cw X H0 m H1 D Pe i H3 := by
  obtain ⟨k1, o1, acc, ds, hacc, racc, hl, hp⟩ := c
  exact ⟨k1.trans k, o, acc, ds, k _ _ hacc (fun z => absurd rfl (cw_dk en hD D z)), racc.kp k (fun q z => .inl (en.ok.dkav q z)), hl, hp⟩
theorem cw_add {H0 H1 H' : Hp} {av0 : Addr → Prop} {D : Addr} {P : PD → Prop} {σ σ2 : L2.St} {ρ2 : List Sl} {scope : Scope} {i : Nat} (en : Env' X.K H0 av0 m σ H1 ρ) (hD : H1 D = none) (hi : i < 1000000) (en2 : Env' X.K H0 av0 (wide m D) σ2 H' ρ2) (he : EB X scope m.mu e ρ2 P) (c : Cw X H0 m H1 D (fun _ => P) i H')
    {Q : VK} (hQ : ∀ y H4 acc, H4 D = some (.lst acc) → acc.length < sizeLine → Cw X H0 m H1 D (fun _ => P) (i + 1) (upd H4 D (.lst (acc ++ [y]))) → Q y H4) : wB X scope e σ2 H' Q := fun s Hh C cl fp => he s Hh C cl fp _ H0 av0 _ H' en2 _ fun v d' H4 k4 o4 r4 p4 => by
  have k4' : Kp m.dk H' H4 := by
    have h4 : Kp (wide m D).dk H' H4 := k4
    rw [wide_dk] at h4
    exact h4
  obtain ⟨k1, o1, acc, ds, hacc, racc, hl, hp⟩ := cw_keep en hD c k4' o4
  have hdk := cw_dk en hD
  refine hQ v H4 acc hacc (Nat.lt_of_lt_of_le (show acc.length < 1000000 by rw [racc.length, hl]; exact hi) (sz_of (Nat.le_refl _))) ⟨fun q o eq z => ?_, ⟨fun q hq => ?_, ?_⟩, acc ++ [v], ds ++ [d'], upd_same, ?_, by rw [List.length_append, hl]; rfl, fun j' d2 e2 => ?_⟩
  · rw [upd_ne (ne_of_none eq hD)]
    exact k1 q o eq z
  · by_cases z : q = D
    · rw [z, upd_same]
      exact fun z => nomatch z
    · rw [upd_ne z]
      exact o1.dom q hq
  · have h := o1.mu
    obtain ⟨av, mu⟩ := m
    cases mu with
    | no => trivial
    | own q xs =>
      obtain ⟨h1, h2, vs, h3, h4⟩ := h
      have hqD : q ≠ D := fun z => by
        obtain ⟨_, _, vs', h3', _⟩ := en.ok.mu
        rw [z, hD] at h3'
        cases h3'
      exact ⟨h1, h2, vs, by rw [upd_ne hqD]; exact h3, RpA.mono (tt_upd hacc) (fun b ys e1 n1 => ⟨by rw [upd_ne (fun z => n1 (.inr z))]; exact e1, n1⟩) _ _ h4⟩
    | deck q =>
      obtain ⟨h1, ns, h2, h3⟩ := h
      exact ⟨h1, ns, by rw [upd_ne (hdk q rfl)]; exact h2, h3⟩
  · exact RpA.mono (tt_upd hacc) (fun b ys e1 n1 => ⟨by rw [upd_ne (fun z => n1 (.inr z))]; exact e1, n1⟩) _ _ (racc.append (.one r4))
  · by_cases hj : j' < ds.length
    · rw [List.getElem?_append_left hj] at e2
      exact hp j' d2 e2
    · by_cases hj2 : j' = ds.length
      · subst hj2
        rw [List.getElem?_append_right (Nat.le_refl _), Nat.sub_self] at e2
        cases e2
        exact p4
      · rw [List.getElem?_eq_none (by rw [List.length_append]; show ds.length + 1 ≤ j'; omega)] at e2
        cases e2
theorem wipe2 {σ : L2.St} {i j : Nat} {x y : Option V} : wipe (((wipe σ [i, j]).set i x).set j y) [i, j] = wipe σ [i, j] := by
  show (((((σ.set j none).set i none).set i x).set j y).set j none).set i none = (σ.set j none).set i none
  rw [List.set_set, List.set_set]
  by_cases h : i = j
  · subst h
    rw [List.set_set, List.set_set, List.set_set]
  · rw [List.set_comm _ _ (fun z => h z.symm), List.set_set, List.set_comm _ _ (fun z => h z.symm), List.set_set]
theorem wipe2s {σ : L2.St} {i j : Nat} {x y : Option V} : ((wipe σ [i, j]).set i x).set j y = (σ.set i x).set j y := by
  show (((σ.set j none).set i none).set i x).set j y = _
  rw [List.set_set]
  by_cases h : i = j
  · subst h
    rw [List.set_set, List.set_set, List.set_set]
  · rw [List.set_comm _ _ (fun z => h z.symm), List.set_set]
/-- [w for at, w in enumerate(t) if test] -/
theorem el_few {ds : List PD} {x1 x2 : Str} {px pt pi : Pos} {kk : Nat} {test iter elt : Expr} {scope : Scope} (j1 j2 : Nat) (hc : X.calm = true) (hN : X.N.Nodup) (hm : X.mg "enumerate" = none) (ok : blkC X.N X.env.scope scope [(x1, j1), (x2, j2)] = true)
    (hg : ∀ (s : Shared) (H : Hp) (C : Addr) (cl : List (Str × Addr)) (fp : List Addr), PG (X.blk s H scope (compEnvC scope cl C X.env) fp) (.Tuple [.Name x1 px, .Name x2 pt] kk pi) (gTup X.K 2 (gNames [j1, j2])))
    (hi : E X m iter ρ (· = .tuple ds)) (hl : ds.length ≤ 1000000) (ht : ∀ (i : Nat) d, ds[i]? = some d → ∃ b, TB X scope m.mu test ((ρ.set j1 (.im (.int i))).set j2 (.im d)) b) (he : ∀ (i : Nat) d, ds[i]? = some d → EB X scope m.mu elt ((ρ.set j1 (.im (.int i))).set j2 (.im d)) P)
    (hgE : Gl X "enumerate" := by rfl) (hst : starEach [iter] X.env = [(false, eval iter X.env)] := by rfl) (hs : ∀ x, foldedSetIterable (.Call (.Name "enumerate" p) [iter] [] p2) X.env x = pure x := by intro _; rfl) :
    EL X m (.ListComp elt [⟨.Tuple [.Name x1 px, .Name x2 pt] kk pi, .Call (.Name "enumerate" p) [iter] [] p2, [test], 0⟩] scope pos) ρ (fun es => ∀ d ∈ es, P d) := fun H0 av0 σ H en Q k =>
  we_of (pe_lc (own := [(x1, j1), (x2, j2)]) hc hN (pi_eT hgE hm (pa_cons pe_we pa_nil hst) hst) (blkOk_by ok) hg (fun s H C cl fp => pts_one (pt_wTB s H C cl fp)) pe_wB hs) (hi H0 av0 σ H en _ fun v d H1 k1 o1 r1 p1 => by
    subst p1
    cases r1 with
    | tup h1 h2 =>
      rename_i ta xs
      refine ⟨ta, rfl, ⟨xs, h1⟩, fun D hD => ?_⟩
      refine ⟨fun i n H' => n = xs.length - i ∧ i ≤ xs.length ∧ ∃ j, j ≤ i ∧ Cw X H0 m H1 D (fun _ => P) j H', ⟨_, rfl, Nat.zero_le _, 0, Nat.le_refl _, cw_start o1 hD⟩, ?_⟩
      have hxl := h2.length
      rintro i n H' ⟨rfl, hi', j, hj, c⟩
      have kT : SqT X.K H' ta xs := c.1.sqT h1
      by_cases hlt : i < xs.length
      · refine .inr ⟨⟨xs, xs[i], kT, List.getElem?_eq_getElem hlt⟩, fun H' => ∃ j, j ≤ i + 1 ∧ Cw X H0 m H1 D (fun _ => P) j H', fun H' c' => ⟨xs.length - (i + 1), by omega, rfl, hlt, c'⟩, fun y H'' hy => ?_⟩
        obtain ⟨Tn, x, rfl, hT, rfl, hx⟩ := hy
        have hx := hx xs kT
        obtain ⟨d, hd, rd⟩ := h2.get hx
        have hTD : Tn ≠ D := fun z => by
          obtain ⟨_, _, acc, _, hacc, _⟩ := c
          rw [z, hacc] at hT
          cases hT
        have en1 := en.step k1 o1
        have c2 := cw_keep en1 hD c (Kp.new (k := m.dk) (o := .tup [.int (i : Nat), x]) hT) (c.2.1.new hT)
        have en2 := cw_env en1 hD c2
        refine ⟨Tn, [.int (i : Nat), x], rfl, SqT.of upd_same, rfl, _, _, rfl, _, _, rfl, rfl, wipe2, ?_⟩
        rw [show (List.set (wipe σ (List.map (fun x => x.snd) [(x1, j1), (x2, j2)])) j1 (some (V.int (i : Nat)))).set j2 (some x) = (σ.set j1 (some (V.int (i : Nat)))).set j2 (some x) from wipe2s]
        have en3 := (en2.set (i := j1) (.int (i : Nat))).set (i := j2) (rd.wide c2.1 en1.ok.dkav hD)
        obtain ⟨b, hb⟩ := ht i d hd
        refine fun s Hh C cl fp => hb s Hh C cl fp _ H0 av0 _ _ en3 _ fun H3 k3 o3 => ?_
        have k3' : Kp m.dk _ H3 := (wide_dk m D) ▸ k3
        have c3 := cw_keep en1 hD c2 k3' o3
        cases b with
        | true => exact iteT (cw_add en1 hD (by omega) (en3.step k3 o3) (he i d hd) c3 fun y H4 acc a1 a2 a3 => ⟨acc, a1, a2, j + 1, by omega, a3⟩)
        | false => exact iteF ⟨j, by omega, c3⟩
      · refine .inl ⟨⟨xs, kT, by omega⟩, cw_end en.ok k1 o1 hD (fun p vs ds H' h1 h2 h3 h4 h5 h6 => k p vs ds H' h1 h2 h3 h4 h5 fun d hd => ?_) c⟩
        obtain ⟨n, hn⟩ := List.getElem?_of_mem hd
        exact h6.2 n d hn)
end
end Tk
end
section
namespace Tk
open PySem PySem.Spec PyProof.Rows L2
def spDeck (K : PySem.W.Frag) : Sp := fun vs H Q _ => ∃ (a : Addr) (ns : List Int), vs = [.ref a] ∧ SqL K H a (ns.map V.int) ∧ ns.length ≤ 63 ∧ ∀ p H', H p = none → Same H H' → DkOk H' p → Q (.ref p) H'
def spLaw (K : PySem.W.Frag) : Sp := fun vs H Q _ => ∃ (a : Addr) (ns : List Int), vs = [.ref a] ∧ SqL K H a (ns.map V.int) ∧ ns.length ≤ 63 ∧ ∀ H', Q (.bl true) H'
section
variable {X : Cx} {m : Mm} {e a b : Expr} {ρ : List Sl} {P : PD → Prop} {pos p p2 : Pos}
theorem e_sum {ns : List Int} (hc : X.calm = true) (hm : X.mg "sum" = none) (ha : E X m a ρ (· = .list (ns.map .int))) (hg : Gl X "sum" := by rfl) (he : starEach [a] X.env = (false, eval a X.env) :: starEach [] X.env := by rfl) : E X m (.Call (.Name "sum" p) [a] [] pos) ρ (· = .int ns.sum) :=
  e_callB (cr_sum hc) hm (by decide +kernel) (ea_c ha ea_nil he) (fun H0 vs H o r Q k => by
    cases r with
    | cons r1 r2 =>
      cases r2
      cases r1 with
      | lst h1 h2 h3 =>
        rw [h3.ints] at h1
        exact ⟨_, ns, rfl, SqL.of h1, k _ _ H (Kp.refl _ _) o (.int _) rfl⟩) hg (he := he)
/-- a drawn number equals another -/
theorem e_eqP {n : Nat} {j : Int} (ha : E X m a ρ (fun d => ∃ k : Nat, k < n ∧ d = dI k)) (hb : E X m b ρ (· = .int j)) : E X m (.Compare a [.Eq] [b] pos) ρ (fun d => ∃ c : Bool, d = .bool c) :=
  e_cmpP op_eq ha hb fun x ⟨k, _, hx⟩ => by
    subst hx
    refine R2D.mono (r2_val (z := .bool (decide ((k : Int) = j))) (vz := .bl (decide ((k : Int) = j))) (fun _ _ => .bl _) fun vx vy H hx hy Q q => ?_) fun d hd => ⟨_, hd⟩
    obtain ⟨_, hx⟩ := hx
    obtain ⟨_, hy⟩ := hy
    cases hx
    cases hy
    rw [show (decide ((k : Int) = j)) = decide (V.int (k : Int) = V.int j) from decide_eq_decide.mpr ⟨fun h => by rw [h], fun h => by injection h⟩] at q
    exact ⟨rfl, q⟩
end
section
variable {P : Program} {wd : World} {K : PySem.W.Frag} {mg : Str → Option Value} {base : Heap}
theorem ok_L_deck {f : Addr} {fd : FuncData} (B : Bt mg) (F : FnP K "_law_deck" sL_deck [] f fd) : FnOk P wd K mg base CX0 1 f fd pL_deck (spDeck K) := by
  refine F.ok cL_deck (fun vs H Q E hs => ?_) (fun cdv A outer s H vs Q E hr hs => ?_)
  · obtain ⟨_, _, rfl, _⟩ := hs
    rfl
  obtain ⟨a, ns, rfl, hq, hl, hQ⟩ := hs
  refine ⟨WSs (cxOf CX0 P wd K mg base NL_deck "_law_deck" (defScope sL_deck) f cdv A outer s H E).nox (defBody sL_deck), PSs.nox pss_ws, ?_⟩
  have hnd := cL_deck.nd
  show WSs _ _ _ [some (.ref a), none] H
  refine wss_of (pss_cons (ps_set (i := 1) hnd rfl (.inl rfl) (pe_callTy call_list_of rfl B.list (by decide +kernel) (pa_cons (pe_slice sl_list (pe_var (i := 0) rfl (.inl rfl)) po_none (po_some pe_int)) pa_nil) (by decide) (by decide) rfl rfl)) pss_ws) ?_
  refine ⟨.ref a, rfl, 63, rfl, a, _, rfl, hq, fun q hq1 => ?_⟩
  have ec : cutV (ns.map V.int) none (some 63) = ns.map V.int := by
    unfold cutV
    rw [show (63 : Int) = ((63 : Nat) : Int) from rfl, HT.sIx_nat, HT.sIx_none, List.length_map, Nat.min_eq_right (by omega), List.drop_zero, Nat.sub_zero]
    exact List.take_of_length_le (Nat.le_of_eq (List.length_map _))
  rw [ec]
  refine ⟨q, ns.map V.int, rfl, .inl (SqL.of upd_same), fun l hl2 => ?_⟩
  have s1 : Same H (upd (upd H q (.lst (ns.map V.int))) l (.lst (ns.map V.int))) := fun x o e => same_new hl2 x o (same_new hq1 x o e)
  have hll : (upd (upd H q (.lst (ns.map V.int))) l (.lst (ns.map V.int))) l = some (.lst (ns.map V.int)) := upd_same
  generalize upd (upd H q (.lst (ns.map V.int))) l (.lst (ns.map V.int)) = H2 at s1 hll ⊢
  show WSs _ _ _ [some (.ref a), some (.ref l)] H2
  have en : Env' K H2 (fun _ => False) ⟨fun _ => False, .no⟩ [some (.ref a), some (.ref l)] H2 [.no, .im (.list (ns.map .int))] := by
    refine ⟨Kp.refl _ _, fun _ z => z, fun _ z => z.elim, ⟨fun _ z => z.elim, trivial⟩, rfl, fun i t z => ?_⟩
    match i with
    | 0 => cases z; exact ⟨_, rfl, trivial⟩
    | 1 => cases z; exact ⟨_, rfl, _, rfl, .lst hll (fun z => z) (RpA.ofInts ns)⟩
    | i + 2 => simp at z
  refine wss_of (pss_one (ps_ret pe_we)) ?_
  refine el_cat (el_lst (ea_c e_int (ea_c (e_mod (by decide) (e_sum rfl B.sum (e_var 1)) e_int) ea_nil))) (el_rev (e_var 1)) ?_ H2 _ _ H2 en _ fun p vs ds H' h1 k1 o1 h2 r1 e1 => ?_
  · rw [List.length_reverse, List.length_map]
    show 2 + ns.length ≤ _
    omega
  have e2 : ds = (0 :: ns.sum % 2147483647 :: ns.reverse).map PyData.int := by
    rw [e1, List.map_cons, List.map_cons, List.map_reverse]
    rfl
  rw [e2] at r1
  rw [r1.ints] at h2
  have hp : H p = none := by
    cases e : H p with
    | none => rfl
    | some o =>
      rw [s1 _ _ e] at h1
      cases h1
  exact hQ p H' hp (fun x o e => k1.toSame x o (s1 x o e)) ⟨_, h2, by simp, by simp; omega⟩
end
end Tk
end
section
namespace Tk
open PySem PySem.Spec PyProof.Rows L2
def goals : List Wd := [⟨2, [1, 0]⟩, ⟨1, [0, 0]⟩, ⟨1, []⟩, ⟨3, [1, 2, 0]⟩, ⟨2, [0, 1, 0]⟩, ⟨1, [0]⟩]
theorem goals_ok : ∀ w ∈ goals, w.ok := by
  intro w h
  simp only [goals, List.mem_cons, List.not_mem_nil, or_false] at h
  rcases h with rfl | rfl | rfl | rfl | rfl | rfl <;> exact ⟨by decide, by decide, by decide⟩
section
variable {X : Cx} {m : Mm} {a : Expr} {ρ : List Sl} {pos p2 : Pos}
theorem el_slLP {lo hi : Option Expr} {Pa : List PD → Prop} {l h : Option Int} (ha : E X m a ρ (fun d => ∃ ds, d = .list ds ∧ Pa ds)) (hl : OD X m lo ρ (· = l)) (hh : OD X m hi ρ (· = h)) : EL X m (.Subscript a (.Slice lo hi none p2) pos) ρ (fun es => ∃ ds, Pa ds ∧ es = cutP ds l h) := fun H0 av0 σ H en Q k =>
  we_of (pe_slice sl_list pe_we po_wo po_wo) (ha H0 av0 σ H en _ fun v d H1 k1 o1 r1 p1 => hl H0 av0 σ H1 (en.step k1 o1) _ fun ol H2 k2 o2 e2 => hh H0 av0 σ H2 ((en.step k1 o1).step k2 o2) _ fun oh H3 k3 o3 e3 => by
    obtain ⟨ds, p1, pa⟩ := p1
    subst p1 e2 e3
    have r3 := (r1.kp k2 o1.dkav).kp k3 o2.dkav
    cases r3 with
    | lst h1 _ h2 =>
      refine ⟨_, _, rfl, SqL.of h1, fun p hp => ?_⟩
      have kk := (k1.trans k2).trans k3
      refine k _ _ _ _ ?_ (kk.trans (Kp.new hp)) (o3.new hp) upd_same ((h2.cut _ _).kp (Kp.new (k := m.dk) hp) o3.dkav) ⟨ds, pa, rfl⟩
      cases e : H p with
      | none => rfl
      | some o =>
        by_cases z : m.dk = some p
        · exact absurd hp (o3.dom p (o3.dkav p z))
        · rw [kk p o e (fun q => absurd q z)] at hp
          cases hp)
end
section
variable {P : Program} {wd : World} {K : PySem.W.Frag} {mg : Str → Option Value} {base : Heap}
theorem ok_law {f : Addr} {fd : FuncData} (B : Bt mg) (DK : CalD P wd K mg base CX0 1 "_law_deck" pL_deck [] (spDeck K)) (DR : CalD P wd K mg base CX0 2 "_law_draw" pL_draw [] (spK K A_draw G_draw)) (WO : CalD P wd K mg base CX0 4 "_law_word" pL_word [] (spK K (· = []) G_word)) (RO : CalD P wd K mg base CX0 5 "_law_row" pL_row [] (spK K (· = [dI 20]) G_drow))
    (OT : CalD P wd K mg base CX0 6 "_law_other" pL_other [] (spK K (fun ds => ∃ r, okR r ∧ r.length ≤ 57 ∧ ds = [dRow r]) G_other)) (RI : CalD P wd K mg base CX0 11 "_law_right" pL_right [] (spD K G_right)) (LR : CalD P wd K mg base CX0 5 "least_row" pleast_row [] (spD K G_lr)) (AL : CalD P wd K mg base CX0 7 "alike" palike [.non] (spD K G_alike))
    (F : FnP K "law" slaw [] f fd) : FnOk P wd K mg base CX0 12 f fd plaw (spLaw K) := by
  refine F.ok claw (fun vs H Q E hs => ?_) (fun cdv A outer s H vs Q E hr hs => ?_)
  · obtain ⟨_, _, rfl, _⟩ := hs
    rfl
  obtain ⟨a, ns, rfl, hq, hl, hQ⟩ := hs
  refine ⟨WSs (cxOf CX0 P wd K mg base Nlaw "law" (defScope slaw) f cdv A outer s H E).nox (defBody slaw), PSs.nox pss_ws, ?_⟩
  have hnd := claw.nd
  show WSs _ _ _ [some (.ref a), none, none, none, none, none, none, none, none, none, none] H
  obtain ⟨fD, fdD, us, FD, mD, kD, bD, uD⟩ := DK.ex
  cases uD
  refine wss_of (pss_cons (ps_set (i := 1) hnd rfl (by first | exact Or.inl rfl | exact Or.inr rfl) (pe_call (E := E0) FD (hr.mono (by decide)) rfl mD kD bD .nil pass0 (pa_cons (pe_var (i := 0) rfl (by first | exact Or.inl rfl | exact Or.inr (Or.inl rfl))) pa_nil))) pss_ws) ?_
  refine ⟨.ref a, rfl, a, ns, rfl, hq, hl, fun p H1 hp sm dk => ?_⟩
  show WSs _ _ _ [some (.ref a), some (.ref p), none, none, none, none, none, none, none, none, none] H1
  have pdom : H1 p ≠ none := fun z => by
    obtain ⟨_, h, _⟩ := dk
    rw [z] at h
    cases h
  have en : Env' K H1 (fun x => x = p) ⟨fun x => x = p, .deck p⟩ [some (.ref a), some (.ref p), none, none, none, none, none, none, none, none, none] H1 [.no, .mu, .no, .no, .no, .no, .no, .no, .no, .no, .no] := by
    refine ⟨Kp.refl _ _, fun _ z => z, fun x z => by rw [z]; exact pdom, ⟨fun x z => by rw [z]; exact pdom, rfl, dk⟩, rfl, fun i t z => ?_⟩
    match i with
    | 1 => cases z; exact ⟨_, rfl, rfl⟩
    | 0 => cases z; exact ⟨_, rfl, trivial⟩
    | 2 => cases z; exact ⟨_, rfl, trivial⟩
    | 3 => cases z; exact ⟨_, rfl, trivial⟩
    | 4 => cases z; exact ⟨_, rfl, trivial⟩
    | 5 => cases z; exact ⟨_, rfl, trivial⟩
    | 6 => cases z; exact ⟨_, rfl, trivial⟩
    | 7 => cases z; exact ⟨_, rfl, trivial⟩
    | 8 => cases z; exact ⟨_, rfl, trivial⟩
    | 9 => cases z; exact ⟨_, rfl, trivial⟩
    | 10 => cases z; exact ⟨_, rfl, trivial⟩
    | i + 11 => simp at z
  suffices h : SS (cxOf CX0 P wd K mg base Nlaw "law" (defScope slaw) f cdv A outer s H E).nox ((defBody slaw).drop 1) ⟨fun x => x = p, .deck p⟩ [.no, .mu, .no, .no, .no, .no, .no, .no, .no, .no, .no] { nx := fun _ _ => False, rt := fun _ d => d = .bool true } by
    refine h H1 _ _ H1 en _ ⟨fun m ρ σ H' e en _ => e.elim, fun _ _ _ _ z => z.elim, fun _ _ _ _ z => z.elim, fun m v d' H' e k1 o1 sub r1 => ?_, fun _ z => z.elim⟩
    have e' : d' = .bool true := e
    subst e'
    cases r1
    exact hQ H'
  clear en
  refine ss_cons (s_forR (P := (· = dI 2)) 2 (fun n i m' ρ' => n = 2 ∧ m' = ⟨fun x => x = p, .deck p⟩ ∧ ∃ s2 s3 s4 s6, ρ' = [.no, .mu, s2, s3, s4, .no, s6, .no, .no, .no, .no] ∧ (0 < i → ∃ r, okR r ∧ r.length ≤ 57 ∧ s4 = .im (dRow r))) rfl hnd PassesOwn.never B.range e_int (fun d hd => ⟨2, hd, by decide, rfl, rfl, .no, .no, .no, .no, rfl, fun z => absurd z (Nat.lt_irrefl 0)⟩) ?_ ?_)
  · rintro n i m' ρ' hi ⟨rfl, rfl, s2, s3, s4, s6, rfl, -⟩
    refine ss_cons (s_setP (P := fun d => ∃ c : Bool, d = .bool c) 3 hnd (e_eqP (k_draw 1 16 DR hr (by decide) rfl (by omega) (by omega) e_int) e_int) ?_)
    rintro d ⟨c, rfl⟩
    refine ss_cons (s_setP (P := RowP 57) 4 hnd ((k_call (CX := CX0) (n := 5) (A := (· = [dI 20])) (G := G_drow) (ds := [dI 20]) 1 E0 RO hr (by decide) pass0 rfl (ea_c e_int ea_nil) rfl).mono fun d ⟨q, q1, q2, q3⟩ => ⟨q, q1, by omega, q3⟩) ?_)
    rintro d ⟨r, hr1, hr2, rfl⟩
    -- behind the row
    have cont : ∀ (r : List Wd), okR r → r.length ≤ 57 → SS (cxOf CX0 P wd K mg base Nlaw "law" (defScope slaw) f cdv A outer s H E).nox ((match (defBody slaw).getD 1 (.Pass ⟨0, 0, 0, 0⟩) with | .For _ _ body _ _ => body | _ => []).drop 3) ⟨fun x => x = p, .deck p⟩ [.no, .mu, .im (.int (i : Nat)), .im (.bool c), .im (dRow r), .no, s6, .no, .no, .no, .no]
        { nx := fun m' ρ' => 2 = 2 ∧ m' = ⟨fun x => x = p, .deck p⟩ ∧ ∃ s2 s3 s4 s6, ρ' = [.no, .mu, s2, s3, s4, .no, s6, .no, .no, .no, .no] ∧ (0 < i + 1 → ∃ r, okR r ∧ r.length ≤ 57 ∧ s4 = .im (dRow r)), ct := fun m' ρ' => 2 = 2 ∧ m' = ⟨fun x => x = p, .deck p⟩ ∧ ∃ s2 s3 s4 s6, ρ' = [.no, .mu, s2, s3, s4, .no, s6, .no, .no, .no, .no] ∧ (0 < i + 1 → ∃ r, okR r ∧ r.length ≤ 57 ∧ s4 = .im (dRow r)), bk := fun m ρ => SS (cxOf CX0 P wd K mg base Nlaw "law" (defScope slaw) f cdv A outer s H E).nox ((defBody slaw).drop 2) m ρ { nx := fun _ _ => False, rt := fun _ d => d = .bool true }, rt := fun _ d => d = .bool true } := by
      intro r hr1 hr2
      refine ss_cons (s_setP (P := RowP 60) 6 hnd ((k_call (CX := CX0) (n := 6) (A := fun ds => ∃ r, okR r ∧ r.length ≤ 57 ∧ ds = [dRow r]) (G := G_other) (ds := [dRow r]) 1 E0 OT hr (by decide) pass0 rfl (ea_c (e_var 4) ea_nil) ⟨r, hr1, hr2, rfl⟩).mono fun d ⟨q, q1, q2⟩ => q2.mono ?_) ?_)
      · injection q1 with q1 _
        rw [← dRow_inj.mp q1]
        omega
      rintro d ⟨t, ht1, ht2, rfl⟩
      refine ss_one (s_if (c := false) (t_w (w_or (c := false) (d := false) ((t_not (t_e (c_call E0 RI hr (by decide) pass0 (ea_c (e_var 4) (ea_c (e_var 6) ea_nil)) ⟨r, t, hr1, ht1, by omega, ht2, rfl, rfl⟩))).is rfl) (fun _ => w_or1 ((t_not (t_e (c_call E0 RI hr (by decide) pass0 (ea_c (e_var 6) (ea_c (e_var 4) ea_nil)) ⟨t, r, ht1, hr1, ht2, by omega, rfl, rfl⟩))).is rfl)))) nf fun _ => ss_nil ?_)
      exact ⟨rfl, rfl, _, _, _, _, rfl, fun _ => ⟨r, hr1, hr2, rfl⟩⟩
    refine ss_cons (s_if (t_e (e_var 3)) (fun z => ?_) (fun z => ss_nil ?_))
    · refine ss_one (s_setP (P := RowP 57) 4 hnd ((e_tupleP B.tuple (el_lcRP (x := "_law_k") (j := 5) (P := fun d => ∃ n : Nat, n ≤ 57 ∧ d = dI n) (R := (· ≤ 57)) (Pe := fun _ d => ∃ w : Wd, w.ok ∧ d = dW w) rfl hnd rfl (fun _ _ _ _ _ => pg_name hnd rfl (Or.inl rfl)) B.range
        (e_binP (Pa := (· = .int 40)) (Pb := fun _ y => ∃ n : Nat, n < 18 ∧ y = dI n) op_add e_int (fun _ _ => k_draw 1 18 DR hr (by decide) rfl (by omega) (by omega) e_int) ?_) (fun d ⟨n, h1, h2⟩ => ⟨n, h2, by omega, h1⟩) (fun i s H C cl fp av' => (k_call (CX := CX0) (n := 4) (A := (· = [])) (G := G_word) (ds := []) 1 E0 WO hr (by decide) pass0 rfl ea_nil rfl).mono fun d hd => hd)).toE).mono ?_) ?_)
      · rintro x y rfl ⟨n, hn, rfl⟩
        refine (r2_I0 (z := .int (40 + (n : Int))) fun _ _ => .int _).mono ?_
        rintro d rfl
        exact ⟨40 + n, by omega, by congr 1⟩
      · rintro d ⟨ds, rfl, hl, hw⟩
        obtain ⟨r, hr', e⟩ := row_of hw
        refine ⟨r, hr', ?_, by rw [e]⟩
        rw [e, List.length_map] at hl
        exact hl
      · rintro d ⟨r, hr1, hr2, rfl⟩
        exact cont r hr1 hr2
    · exact cont r hr1 hr2
  · rintro n m' ρ' ⟨rfl, rfl, s2, s3, s4, s6, rfl, h4⟩
    obtain ⟨r, hr1, hr2, rfl⟩ := h4 (by decide)
    refine ss_cons (s_setP (P := RowP 3) 7 hnd ((e_tupleP (P := fun ds => ∃ r : List Wd, okR r ∧ r.length ≤ 3 ∧ ds = r.map dW) B.tuple ?_).mono ?_) ?_)
    · refine ((el_slLP (el_few (P := fun d => ∃ w : Wd, w.ok ∧ d = dW w) 8 9 rfl hnd B.enum rfl (fun s H C cl fp => pg_tup rfl (pgs_cons (pg_name hnd rfl (Or.inl rfl)) (pgs_cons (pg_name hnd rfl (Or.inl rfl)) pgs_nil))) (e_var 4) (by rw [List.length_map]; omega) (fun i d hd => ?_) (fun i d hd => ?_)).toE o_none (o_some (i := 3) e_int)).toE).mono ?_
      · obtain ⟨w, hw, rfl⟩ := row_get hd
        have hi : i < r.length := (List.getElem?_eq_some_iff.mp hw).1
        refine ⟨!decide (wtx w ∈ (r.take i).map wtx), fun s H C cl fp av => t_notInSs (e_var 9) ((e_slT (e_var 4) o_none (o_some (e_var 8))).is ?_)⟩
        rw [cut_to (by omega), List.map_map]
        rfl
      · obtain ⟨w, hw, rfl⟩ := row_get hd
        exact fun s H C cl fp av => (e_var 9).mono fun d hd => ⟨w, hr1 w (List.mem_of_getElem? hw), hd⟩
      · rintro d ⟨es, rfl, ds, hds, rfl⟩
        refine ⟨_, rfl, ?_⟩
        have e3 : cutP ds none (some 3) = ds.take 3 := by
          unfold cutP
          rw [show (3 : Int) = ((3 : Nat) : Int) from rfl, HT.sIx_nat, HT.sIx_none, List.drop_zero, Nat.sub_zero]
          rcases Nat.le_total 3 ds.length with h | h
          · rw [Nat.min_eq_left h]
          · rw [Nat.min_eq_right h, List.take_length, List.take_of_length_le h]
        rw [e3]
        obtain ⟨q, q1, q2⟩ := row_of (ds := ds.take 3) fun j d hd => hds d (List.mem_of_mem_take (List.mem_of_getElem? hd))
        refine ⟨q, q1, ?_, q2⟩
        have := congrArg List.length q2
        rw [List.length_map, List.length_take] at this
        omega
    · rintro d ⟨ds, rfl, q, q1, q2, rfl⟩
      exact ⟨q, q1, q2, rfl⟩
    rintro d ⟨few, hf1, hf2, rfl⟩
    refine ss_cons (s_setP (P := fun d => ∃ w : Wd, w.ok ∧ d = dW w) 9 hnd (e_ixP (Pa := (· = .list (goals.map dW))) (Pb := fun _ y => ∃ k : Nat, k < 6 ∧ y = dI k) ((el_lst (ea_c e_str (ea_c e_str (ea_c e_str (ea_c e_str (ea_c e_str (ea_c e_str ea_nil))))))).im.is ?_) (fun _ _ => k_draw 1 6 DR hr (by decide) rfl (by omega) (by omega) e_int) ?_) ?_)
    · rw [show goals.map dW = (goals.map wtx).map .str from by rw [List.map_map]; rfl, show goals.map wtx = (["ab-ba", "a-aa", "a-", "abc-bca", "ab-aba", "a-a"] : List Str) from by decide +kernel]
      rfl
    · rintro x y rfl ⟨k, hk, rfl⟩
      obtain ⟨w, hw⟩ : ∃ w, goals[k]? = some w := ⟨_, List.getElem?_eq_getElem (show k < goals.length from hk)⟩
      exact ⟨_, _, _, .inr rfl, rfl, atI_map hw, w, goals_ok w (List.mem_of_getElem? hw), rfl⟩
    rintro d ⟨w, hw, rfl⟩
    refine ss_cons (s_if (c := decide (few = [])) (t_eq (n := 1) (n' := 1) hr (e_var 7) (e_tup ea_nil) (by rw [decide_eq_true_iff]; exact dRow_inj (t := [])) (good_dRow 0 hf1) (good_nil 0)) (fun z => ss_one (s_ret e_bl rfl)) (fun z => ss_nil ?_))
    refine ss_cons (s_set 10 hnd (c_call E0 LR hr (by decide) pass0 (ea_c (e_var 7) (ea_c (e_var 9) (ea_c e_int ea_nil))) ⟨few, w, hf1, hf2, hw, rfl, rfl⟩) ?_)
    rcases leastRow_ok hf1 hw with ⟨x, hx⟩ | ⟨row, x, ho, hm, hx⟩
    · rw [hx]
      exact ss_cons (s_if (c := true) ((t_eqS (e_ix (e_var 10) e_int (d := .str "none") (atI_nat (j := 0) rfl)) e_str).is (by simp)) (fun _ => ss_one (s_ret e_bl rfl)) tf)
    · rw [hx]
      have hw1 : okL [w] := ⟨okR_one hw, by simp⟩
      refine ss_cons (s_if (c := false) ((t_eqS (e_ix (e_var 10) e_int (d := .str "least") (atI_nat (j := 0) rfl)) e_str).is (by decide)) nf fun _ => ss_nil ?_)
      have ea1 : alikeD row [w] = .tuple [.str "alike", dPap [⟨0, row.length, [w]⟩]] := if_pos hm
      have ea2 : alikeD [w] row = .tuple [.str "alike", dPap [⟨0, 1, row⟩]] := if_pos hm.symm
      refine ss_one (s_ret (e_and (c := true) (d := true) ((e_eq (n := 0) (n' := 0) (c := true) hr (e_ix ((c_callN E0 AL hr (by decide) pass0 (ea_c (e_ix (e_var 10) e_int (d := dRow row) (atI_nat (j := 1) rfl)) (ea_c (e_tup (ea_c (e_var 9) ea_nil)) ea_nil)) ⟨row, [w], .none, ho, hw1, rfl, rfl⟩).is ea1) e_int (d := .str "alike") (atI_nat (j := 0) rfl)) e_str ⟨fun _ => rfl, fun _ => rfl⟩ ?_ ?_)) (fun _ => e_one (e_eq (n := 0) (n' := 0) (c := true) hr (e_ix ((c_callN E0 AL hr (by decide) pass0 (ea_c (e_tup (ea_c (e_var 9) ea_nil)) (ea_c (e_ix (e_var 10) e_int (d := dRow row) (atI_nat (j := 1) rfl)) ea_nil)) ⟨[w], row, .none, hw1, ho, rfl, rfl⟩).is ea2) e_int (d := .str "alike") (atI_nat (j := 0) rfl)) e_str ⟨fun _ => rfl, fun _ => rfl⟩ ?_ ?_))) rfl)
      all_goals exact (show PyData.strOk "alike" = true by decide +kernel)
end
end Tk
end
section
namespace Tk
open PySem PySem.Spec PyProof.Rows L2
/-! ## dicts whose keys are maps, their values rows -/
def keyN (s : Mp) : NestedKey := .tup [.num (s.1 : Nat), .tup (s.2.map fun (k : Nat) => .num (k : Int))]
theorem keyN_inj {s t : Mp} : keyN s = keyN t ↔ s = t := by
  constructor
  · intro h
    obtain ⟨n, p⟩ := s
    obtain ⟨k, q⟩ := t
    unfold keyN at h
    injection h with h
    injection h with h1 h2
    injection h2 with h2 _
    injection h1 with h1
    injection h2 with h2
    have e1 : n = k := by
      have : (n : Int) = (k : Int) := h1
      omega
    have e2 : p = q := (List.map_inj_right fun x y e => by injection e with e; omega).mp h2
    rw [e1, e2]
  · intro h
    rw [h]
def KeyAt (K : PySem.W.Frag) (H : Hp) (s : Mp) (a : Addr) : Prop := ∃ b, SqT K H a [.int (s.1 : Nat), .ref b] ∧ SqT K H b (s.2.map fun (k : Nat) => V.int (k : Int))
def rowV (r : List Wd) : List V := r.map fun w => .str (wtx w)
abbrev Ent := NestedKey × Addr × Value
def EntAt (K : PySem.W.Frag) (H : Hp) (x : Ent) (e : Mp × List Wd) : Prop := x.1 = keyN e.1 ∧ KeyAt K H e.1 x.2.1 ∧ ∃ ra, x.2.2 = .ref ra ∧ SqT K H ra (rowV e.2)
inductive Ents (K : PySem.W.Frag) (H : Hp) : List Ent → Bk → Prop
  | nil : Ents K H [] []
  | cons {x : Ent} {xs : List Ent} {e : Mp × List Wd} {b : Bk} : EntAt K H x e → Ents K H xs b → Ents K H (x :: xs) (e :: b)
def ObX (P : Program) (w : World) (o : Obj) (xs : List Ent) : Prop := o.ExactDict ∧ ∃ es ep, o.data = .dict es ep ∧ es.toList = xs.map (entryOfKey (nestedKind P w))
def dHO (d : Addr) (o : Obj) : HO := .ext (fun h => h.get? d = some o)
structure DicO (P : Program) (w : World) (K : PySem.W.Frag) (H : Hp) (d : Addr) (o : Obj) (xs : List Ent) (b : Bk) : Prop where
  at_ : H d = some (dHO d o)
  sys : (d == sysModules) = false
  ob : ObX P w o xs
  en : Ents K H xs b
  nd : (b.map (·.1)).Nodup
  sz : b.length ≤ 1000
def DicAt (P : Program) (w : World) (K : PySem.W.Frag) (H : Hp) (d : Addr) (b : Bk) : Prop := ∃ o xs, DicO P w K H d o xs b
section
variable {P : Program} {w : World} {K : PySem.W.Frag} {H H' : Hp}
theorem KeyAt.tt {s : Mp} {a : Addr} (k : TupK K H H') (h : KeyAt K H s a) : KeyAt K H' s a := by
  obtain ⟨b, h1, h2⟩ := h
  exact ⟨b, k.1 _ _ h1, k.1 _ _ h2⟩
theorem Ents.tt (k : TupK K H H') : ∀ {xs : List Ent} {b : Bk}, Ents K H xs b → Ents K H' xs b
  | _, _, .nil => .nil
  | _, _, .cons ⟨h1, h2, ra, h3, h4⟩ h => .cons ⟨h1, h2.tt k, ra, h3, k.1 _ _ h4⟩ (Ents.tt k h)
theorem Ents.len : ∀ {xs : List Ent} {b : Bk}, Ents K H xs b → xs.length = b.length
  | _, _, .nil => rfl
  | _, _, .cons _ h => by rw [List.length_cons, List.length_cons, Ents.len h]
theorem Ents.keys : ∀ {xs : List Ent} {b : Bk}, Ents K H xs b → xs.map (·.1) = (b.map (·.1)).map keyN
  | _, _, .nil => rfl
  | _, _, .cons h1 h => by rw [List.map_cons, List.map_cons, List.map_cons, h.keys, h1.1]
theorem Ents.get : ∀ {xs : List Ent} {b : Bk} {i : Nat} {x : Ent}, Ents K H xs b → xs[i]? = some x → ∃ e, b[i]? = some e ∧ EntAt K H x e
  | _, _, i, x, .nil, e => by simp at e
  | _, _, 0, x, .cons h1 h, e => by cases e; exact ⟨_, rfl, h1⟩
  | _, _, i + 1, x, .cons h1 h, e => Ents.get (i := i) h e
theorem Ents.snoc : ∀ {xs : List Ent} {b : Bk} {x : Ent} {e : Mp × List Wd}, Ents K H xs b → EntAt K H x e → Ents K H (xs ++ [x]) (b ++ [e])
  | _, _, _, _, .nil, q => .cons q .nil
  | _, _, _, _, .cons h1 h, q => .cons h1 (h.snoc q)
theorem Ents.at : ∀ {xs : List Ent} {b : Bk}, Ents K H xs b → ∀ k : Mp, (atKey xs (keyN k) = none ∧ getK b k = none) ∨ ∃ a ra r, atKey xs (keyN k) = some (a, .ref ra) ∧ getK b k = some r ∧ SqT K H ra (rowV r)
  | _, _, .nil, k => .inl ⟨rfl, rfl⟩
  | x :: xs, e :: b, .cons ⟨h1, h2, ra, h3, h4⟩ h, k => by
    by_cases c : e.1 = k
    · refine .inr ⟨x.2.1, ra, e.2, ?_, ?_, h4⟩
      · unfold atKey
        rw [List.find?_cons_of_pos (by rw [h1, c]; exact decide_eq_true rfl)]
        show some x.2 = some (x.2.1, _)
        rw [← h3]
      · unfold getK
        rw [if_pos c]
    · have e1 : atKey (x :: xs) (keyN k) = atKey xs (keyN k) := by
        unfold atKey
        rw [List.find?_cons_of_neg (by rw [h1]; simp; exact fun z => c (keyN_inj.mp z))]
      have e2 : getK (e :: b) k = getK b k := by
        show (if e.1 = k then _ else _) = _
        rw [if_neg c]
      rw [e1, e2]
      exact h.at k
theorem DicAt.same {d : Addr} {b : Bk} (s : Same H H') (h : DicAt P w K H d b) : DicAt P w K H' d b := by
  obtain ⟨o, xs, h⟩ := h
  exact ⟨o, xs, s _ _ h.at_, h.sys, h.ob, h.en.tt (Kp.same (k := none) s).tt, h.nd, h.sz⟩
theorem nums_depth : ∀ p : List Nat, NestedKey.depthAll (p.map fun (k : Nat) => .num (k : Int)) = 0
  | [] => by simp only [List.map_nil, NestedKey.depthAll]
  | k :: p => by
    simp only [List.map_cons, NestedKey.depthAll, NestedKey.depth]
    rw [nums_depth p]
    rfl
end
section
variable {X : Cx} {pins : List (Addr × Obj)} {σ : L2.St} {H H' : Hp} {s : Shared}
theorem ints_all {h : Heap} : ∀ {p : List Nat} {its : List Value}, Vals (p.map fun (k : Nat) => V.int (k : Int)) its → NestedAll h (p.map fun (k : Nat) => .num (k : Int)) its
  | [], _, r => by cases r; exact .nil
  | k :: p, _, r => by
    cases r with
    | cons r1 r2 =>
      obtain ⟨t, rfl⟩ := r1
      exact .cons (.int _ t) (ints_all r2)
theorem key_isN (I : Inv X pins σ H s) {k : Mp} {a : Addr} (h : KeyAt X.K H k a) : (nestedKind X.prog X.w).is s.heap (keyN k) a := by
  obtain ⟨b, h1, h2⟩ := h
  obtain ⟨its, rv, ⟨o, ho, hc, n, hd⟩, _⟩ := I.tuple h1
  obtain ⟨its2, rv2, ⟨o2, ho2, hc2, n2, hd2⟩, _⟩ := I.tuple h2
  refine ⟨.tup ho hc hd ?_, ?_⟩
  · cases rv with
    | cons r1 r2 =>
      obtain ⟨t, rfl⟩ := r1
      cases r2 with
      | cons r2 r3 =>
        cases r3
        cases r2
        exact .cons (.int _ t) (.cons (.tup ho2 hc2 hd2 (ints_all rv2)) .nil)
  · unfold keyN
    simp only [NestedKey.depth, NestedKey.depthAll, nums_depth]
    decide
theorem dic_of (I : Inv X pins σ H s) {d : Addr} {o : Obj} {xs : List Ent} {b : Bk} (h : DicO X.prog X.w X.K H d o xs b) : s.heap.DictOfH (nestedKind X.prog X.w) d xs := by
  obtain ⟨h1, es, ep, h2, h3⟩ := h.ob
  refine ⟨o, es, ep, (I.hok d _ h.at_).1, h1, h2, h3, fun x hx => ?_, ?_⟩
  · obtain ⟨i, hi⟩ := List.getElem?_of_mem hx
    obtain ⟨e, _, k1, k2, _⟩ := h.en.get hi
    rw [k1]
    exact key_isN I k2
  · rw [h.en.keys]
    exact List.Pairwise.map keyN (fun a b q z => q (keyN_inj.mp z)) h.nd
theorem room_N (hu : X.A.units + 64 < cLine) : (nestedKind X.prog X.w).room X.A.in1 := by
  show X.A.units + 1 + 8 < cLine
  omega
def rInN (X : Cx) (neg : Bool) : R2 := fun x y H Q => ∃ a d k b, x = .ref a ∧ y = .ref d ∧ KeyAt X.K H k a ∧ DicAt X.prog X.w X.K H d b ∧ Q (.bl (neg ^^ (getK b k).isSome)) H
theorem at_some {K : PySem.W.Frag} {H : Hp} {xs : List Ent} {b : Bk} (h : Ents K H xs b) (k : Mp) : (atKey xs (keyN k)).isSome = (getK b k).isSome := by
  rcases h.at k with ⟨e1, e2⟩ | ⟨a, ra, r, e1, e2, _⟩ <;> rw [e1, e2] <;> rfl
theorem op_inN (hu : X.A.units + 64 < cLine) : OpR X (compareOp .In) (rInN X false) := by
  intro pins s σ H x y v u Q I rx ry h
  obtain ⟨a, d, k, b, rfl, rfl, hk, ⟨o, xs, hd⟩, q⟩ := h
  obtain rfl : v = .ref a := rx
  obtain rfl : u = .ref d := ry
  refine wpAny_in_heap (room_N hu) (key_isN I hk) hd.sys (dic_of I hd) ⟨.bl _, H, I.tok _, rfl, ?_⟩
  rw [at_some hd.en]
  simpa using q
theorem op_notInN (hu : X.A.units + 64 < cLine) : OpR X (compareOp .NotIn) (rInN X true) := by
  intro pins s σ H x y v u Q I rx ry h
  obtain ⟨a, d, k, b, rfl, rfl, hk, ⟨o, xs, hd⟩, q⟩ := h
  obtain rfl : v = .ref a := rx
  obtain rfl : u = .ref d := ry
  refine notIn_keyed (room_N hu) (key_isN I hk) hd.sys ⟨xs, dic_of I hd, rfl⟩ ⟨.bl _, H, I.tok _, rfl, ?_⟩
  rw [valueAt_pairsH, Option.isSome_map, at_some hd.en]
  simpa using q
/-- d[k], the key there -/
def rIxN (X : Cx) : R2 := fun x y H Q => ∃ a d k b r, x = .ref d ∧ y = .ref a ∧ KeyAt X.K H k a ∧ DicAt X.prog X.w X.K H d b ∧ getK b k = some r ∧ ∀ ra, SqT X.K H ra (rowV r) → Q (.ref ra) H
theorem dic_type (I : Inv X pins σ H s) {d : Addr} {b : Bk} (h : DicAt X.prog X.w X.K H d b) : s.TypeIs (.ref d) "dict" := by
  obtain ⟨o, xs, h⟩ := h
  exact (dic_of I h).typeIs
variable {e o i : Expr} {td ty : TE} {pos : Pos}
theorem pe_ixN (hu : X.A.units + 64 < cLine) (ho : PE X o td) (hi : PE X i ty) (hs : PlainIx i) : PE X (.Subscript o i pos) (tOp (rIxN X) td ty) := by
  refine ⟨fun pins s σ H Q I h => subD_of PySem.F.slot_dict_getitem.lookup hs (thn (ho.run pins s σ H _ I h) fun u s1 ⟨x, H1, I1, rx, q1⟩ => thn (hi.run pins s1 σ H1 _ I1 q1) fun iv s2 ⟨y, H2, I2, ry, q2⟩ => ?_)⟩
  obtain ⟨a, d, k, b, r, rfl, rfl, hk, hd, hr, q⟩ := q2
  obtain rfl : u = .ref d := rx
  obtain rfl : iv = .ref a := ry
  refine ⟨dic_type I2 hd, ?_⟩
  obtain ⟨ob, xs, hd⟩ := hd
  rcases hd.en.at k with ⟨_, e2⟩ | ⟨a2, ra, r2, e1, e2, hq⟩
  · rw [hr] at e2
    cases e2
  · rw [hr] at e2
    cases e2
    exact wpAny_getItem_heap (room_N hu) (key_isN I2 hk) (dic_of I2 hd) e1 ⟨.ref ra, H2, I2.tok _, rfl, q ra hq⟩
theorem tt_updX {K : PySem.W.Frag} {H : Hp} {d : Addr} {u : HO} {φ : Heap → Prop} (h : H d = some (.ext φ)) : TupK K H (upd H d u) := by
  refine ⟨fun a xs z => ?_, fun a xs ⟨ob, h1, h2⟩ => ⟨ob, by rw [upd_ne (ne_of h1 h (fun z => nomatch z))]; exact h1, h2⟩⟩
  rcases z with (z | ⟨o, z⟩) | z
  · exact .inl (.inl (by rw [upd_ne (ne_of z h (fun z => nomatch z))]; exact z))
  · exact .inl (.inr ⟨o, by rw [upd_ne (ne_of z h (fun z => nomatch z))]; exact z⟩)
  · exact .inr z
/-- d[k] = v, the key not there -/
def rSetN (X : Cx) : TSet := fun o i v H Q => ∃ d a ra k b r, o = .ref d ∧ i = .ref a ∧ v = .ref ra ∧ KeyAt X.K H k a ∧ DicAt X.prog X.w X.K H d b ∧ SqT X.K H ra (rowV r) ∧ getK b k = none ∧ b.length < 1000 ∧
  ∀ u, DicAt X.prog X.w X.K (upd H d u) d (b ++ [(k, r)]) → (∃ φ, u = .ext φ) → Q (upd H d u)
theorem getK_none : ∀ {b : Bk} {k : Mp}, getK b k = none ↔ k ∉ b.map (·.1)
  | [], k => by simp [getK]
  | e :: b, k => by
    have ih := getK_none (b := b) (k := k)
    by_cases c : e.1 = k
    · simp [getK, c]
    · simp only [getK, if_neg c, List.map_cons, List.mem_cons, not_or]
      rw [ih]
      exact ⟨fun h => ⟨fun z => c z.symm, h⟩, fun h => h.2⟩
theorem nodup_snoc {b : Bk} {k : Mp} {r : List Wd} (h : (b.map (·.1)).Nodup) (q : getK b k = none) : ((b ++ [(k, r)]).map (·.1)).Nodup := by
  rw [List.map_append, List.nodup_append]
  refine ⟨h, by simp, fun x hx y hy z => ?_⟩
  have hy' : y = k := by simpa using hy
  exact getK_none.mp q (by rw [← hy', ← z]; exact hx)
theorem set_N (hu : X.A.units + 64 < cLine) : PSet X (rSetN X) := by
  intro pins s σ H o i v ov iv u Q I ro ri rv h
  obtain ⟨d, a, ra, k, b, r, rfl, rfl, rfl, hk, ⟨ob, xs, hd⟩, hr, hn, hl, q⟩ := h
  obtain rfl : ov = .ref d := ro
  obtain rfl : iv = .ref a := ri
  obtain rfl : u = .ref ra := rv
  have hl' := hd.en.len
  have eN : atKey xs (keyN k) = none := by
    rcases hd.en.at k with ⟨e1, _⟩ | ⟨_, _, _, _, e2, _⟩
    · exact e1
    · rw [hn] at e2
      cases e2
  refine wpAny_setItem_heap (hsz := Nat.le_trans (show xs.length ≤ 1000 by omega) (by decide)) (room_N hu) (key_isN I hk) (dic_of I hd) fun h' hm' hs => ?_
  obtain ⟨ob', es, ep, g1, g2, g3, g4, _, _⟩ := hm'
  rw [storedH_new eN] at g4
  have tt : TupK X.K H (upd H d (dHO d ob')) := tt_updX hd.at_
  have I1 : Inv X pins σ (upd H d (dHO d ob')) { s with heap := h', toks := s.toks + (nestedKind X.prog X.w).draws (keyN k) } :=
    d_write I (by rw [hd.at_]; exact True.intro) hs ⟨ob', g1⟩ ⟨g1, ⟨ob', g1⟩, fun h1 h2 p q => q ob' p⟩
  refine ⟨_, I1, q _ ⟨ob', _, ⟨upd_same, hd.sys, ⟨g2, es, ep, g3, g4⟩, (hd.en.tt tt).snoc ⟨rfl, hk.tt tt, ra, rfl, tt.1 _ _ hr⟩, nodup_snoc hd.nd hn, by rw [List.length_append]; show _ + 1 ≤ _; omega⟩⟩ ⟨_, rfl⟩⟩
end
end Tk
end
section
namespace Tk
open PySem PySem.Spec PyProof.Rows L2
section
variable {X : Cx} {pins : List (Addr × Obj)} {σ : L2.St} {H H' : Hp} {s : Shared} {pos : Pos}
def emptyO : Obj := { cls := .type "dict", data := .dict #[] }
/-- {} -/
theorem pe_newN : PE X (.Dict [] [] pos) (fun σ H Q => ∀ p u, H p = none → DicAt X.prog X.w X.K (upd H p u) p [] → (∃ φ, u = .ext φ) → Q (.ref p) (upd H p u)) := ⟨fun pins s σ H Q I h => by
  have g : (s.heap.push emptyO).get? s.heap.objs.size = some emptyO := Heap.get?_push_size _ rfl
  have hb : (s.heap.objs.size == sysModules) = false := beq_eq_false_iff_ne.mpr (Ne.symm (Nat.ne_of_lt I.big))
  have I1 : Inv X pins σ (upd H s.heap.objs.size (dHO s.heap.objs.size emptyO)) { s with heap := s.heap.push emptyO } :=
    I.laid (t' := s.toks) (fun _ _ q => Heap.get?_push_of_some _ q) (Nat.le_refl _) ⟨g, ⟨_, g⟩, fun h1 h2 p q => q _ p⟩
  exact wpAny_Dict_empty ⟨.ref s.heap.objs.size, _, I1, rfl, h _ _ (I.hok.fresh (Nat.le_refl _)) ⟨emptyO, [], ⟨upd_same, hb, ⟨⟨rfl, rfl, rfl⟩, #[], 0, rfl, rfl⟩, .nil, List.nodup_nil, Nat.zero_le _⟩⟩ ⟨_, rfl⟩⟩⟩
/-- len(d) -/
theorem cr_lenN : CallR X (.builtin "len") (fun vs H Q => ∃ d b, vs = [.ref d] ∧ DicAt X.prog X.w X.K H d b ∧ Q (.int (b.length : Nat)) H) := by
  intro pins s σ H vs us Q I r h
  obtain ⟨d, b, rfl, ⟨o, xs, hd⟩, q⟩ := h
  obtain rfl := Vals.ref1 r
  have hm : s.heap.DictKeyed (nestedKind X.prog X.w) d (pairsH xs) := ⟨xs, dic_of I hd, rfl⟩
  have hl : (pairsH xs).length = b.length := by rw [pairsH_length, hd.en.len]
  have hz := hd.sz
  refine call_len_slot (n := (pairsH xs).length) hm.typeIs PySem.F.slot_dict_len (fun Q' hq => len_keyed hd.sys hm hq) (by omega) (by omega) ⟨.int _, H, I.tok _, ⟨_, rfl⟩, ?_⟩
  rw [hl]
  exact q
/-- d.update(d2), d2's keys not in d -/
theorem storedAll_new : ∀ (ys xs : List Ent), (xs.map (·.1) ++ ys.map (·.1)).Nodup → storedAllH xs ys = xs ++ ys
  | [], xs, _ => (List.append_nil _).symm
  | y :: ys, xs, h => by
    have e : storedH xs y.1 y.2.1 y.2.2 = xs ++ [y] := by
      refine storedH_new ?_ _ _
      unfold atKey
      rw [List.find?_eq_none.mpr fun x hx z => ?_]
      · rfl
      · have := (List.nodup_append.mp h).2.2 x.1 (List.mem_map.mpr ⟨x, hx, rfl⟩) y.1 (by simp)
        exact this (of_decide_eq_true z)
    show storedAllH (storedH xs y.1 y.2.1 y.2.2) ys = _
    rw [e, storedAll_new ys (xs ++ [y]) (by rw [List.map_append, List.append_assoc]; exact h), List.append_assoc]
    rfl
theorem Ents.append {K : PySem.W.Frag} : ∀ {xs ys : List Ent} {b c : Bk}, Ents K H xs b → Ents K H ys c → Ents K H (xs ++ ys) (b ++ c)
  | _, _, _, _, .nil, q => q
  | _, _, _, _, .cons h1 h, q => .cons h1 (h.append q)
def rUpdN (X : Cx) : V → List V → Hp → VK → Prop := fun x vs H Q => ∃ d o b c, x = .ref d ∧ vs = [.ref o] ∧ DicAt X.prog X.w X.K H d b ∧ DicAt X.prog X.w X.K H o c ∧ d ≠ o ∧ b ≠ [] ∧ (b.map (·.1) ++ c.map (·.1)).Nodup ∧ b.length + c.length ≤ 1000 ∧
  ∀ u, DicAt X.prog X.w X.K (upd H d u) d (b ++ c) → (∃ φ, u = .ext φ) → Q .non (upd H d u)
theorem mt_updN (hu : X.A.units + 64 < cLine) : MtR X "dict.update" (rUpdN X) := by
  intro pins s σ H x vs v us Q I rx rvs h
  obtain ⟨d, o, b, c, rfl, rfl, ⟨ob, xs, hd⟩, ⟨oc, ys, ho⟩, hdo, hb, hn, hl, q⟩ := h
  obtain rfl : v = .ref d := rx
  obtain rfl := Vals.ref1 rvs
  have l1 := hd.en.len
  have l2 := ho.en.len
  have hxs : xs ≠ [] := fun z => hb (by rw [z] at l1; exact List.eq_nil_of_length_eq_zero l1.symm)
  refine call_update_dictH (room_N hu) hdo ho.sys (dic_of I hd) (dic_of I ho) (.inl hxs) (Nat.le_trans (show xs.length + ys.length ≤ 1000 by omega) (by decide)) fun h' hm' _ hs => ?_
  obtain ⟨ob', es, ep, g1, g2, g3, g4, _, _⟩ := hm'
  have hn' : (xs.map (·.1) ++ ys.map (·.1)).Nodup := by
    rw [hd.en.keys, ho.en.keys, ← List.map_append]
    exact List.Pairwise.map keyN (fun a b q z => q (keyN_inj.mp z)) hn
  rw [storedAll_new ys xs hn'] at g4
  have tt : TupK X.K H (upd H d (dHO d ob')) := tt_updX hd.at_
  have I1 : Inv X pins σ (upd H d (dHO d ob')) { s with heap := h' } := d_write (t' := s.toks) I (by rw [hd.at_]; exact True.intro) hs ⟨ob', g1⟩ ⟨g1, ⟨ob', g1⟩, fun h1 h2 p q => q ob' p⟩
  exact ⟨.non, _, I1, rfl, q _ ⟨ob', _, ⟨upd_same, hd.sys, ⟨g2, es, ep, g3, g4⟩, (hd.en.tt tt).append (ho.en.tt tt), by rw [List.map_append]; exact hn, by rw [List.length_append]; exact hl⟩⟩ ⟨_, rfl⟩⟩
end
end Tk
end
section
namespace Tk
open PySem PySem.Spec PyProof.Rows L2
section
variable {X : Cx} {pins : List (Addr × Obj)} {σ : L2.St} {H H' : Hp} {s : Shared} {pos : Pos} {k v e o : Expr} {es : List Expr} {tk tv to td : TE} {t : TA}
/-- {k: v} -/
theorem pe_oneN (hu : X.A.units + 64 < cLine) (hk : PE X k tk) (hv : PE X v tv) : PE X (.Dict [some k] [v] pos) (fun σ H Q => ∀ p u, H p = none → DicAt X.prog X.w X.K (upd H p u) p [] → (∃ φ, u = .ext φ) → tk σ (upd H p u) fun x H1 => tv σ H1 fun y H2 =>
    ∃ a ra key r, x = .ref a ∧ y = .ref ra ∧ KeyAt X.K H2 key a ∧ SqT X.K H2 ra (rowV r) ∧ H2 p = some u ∧ ∀ u', DicAt X.prog X.w X.K (upd H2 p u') p [(key, r)] → (∃ φ, u' = .ext φ) → Q (.ref p) (upd H2 p u')) := by
  refine ⟨fun pins s σ H Q I q => ?_⟩
  have g : (s.heap.push emptyO).get? s.heap.objs.size = some emptyO := Heap.get?_push_size _ rfl
  have hb : (s.heap.objs.size == sysModules) = false := beq_eq_false_iff_ne.mpr (Ne.symm (Nat.ne_of_lt I.big))
  have I1 : Inv X pins σ (upd H s.heap.objs.size (dHO s.heap.objs.size emptyO)) { s with heap := s.heap.push emptyO } :=
    I.laid (t' := s.toks) (fun _ _ q => Heap.get?_push_of_some _ q) (Nat.le_refl _) ⟨g, ⟨_, g⟩, fun h1 h2 p q => q _ p⟩
  have q1 := q _ (dHO s.heap.objs.size emptyO) (I.hok.fresh (Nat.le_refl _)) ⟨emptyO, [], ⟨upd_same, hb, ⟨⟨rfl, rfl, rfl⟩, #[], 0, rfl, rfl⟩, .nil, List.nodup_nil, Nat.zero_le _⟩⟩ ⟨_, rfl⟩
  rw [arm_eval_Dict, zip_pairTrees [some k] [v] X.env pos rfl rfl, dictDisplay_pairs (pairTrees [some k] [v] X.env pos) (by simp [pairTrees]) (by simp [pairTrees])]
  refine wpAny_bind (wpAny_standAt (wpAny_bind (wpAny_subDictH (knd := nestedKind X.prog X.w) (Q := fun d s' => wpAny (model X.prog X.w) X.A (pure (Value.ref d)) (EP X pins σ Q) X.xe s') (show X.A.units + 8 < cLine by omega) (by simp [pairTrees]) ?_)))
  refine thn ((pps_cons hk hv pps_nil).run pins _ σ _ (fun ps H2 => match ps with | [(x, y)] => ∃ a ra key r, x = .ref a ∧ y = .ref ra ∧ KeyAt X.K H2 key a ∧ SqT X.K H2 ra (rowV r) ∧ H2 s.heap.objs.size = some (dHO s.heap.objs.size emptyO) ∧ ∀ u', DicAt X.prog X.w X.K (upd H2 s.heap.objs.size u') s.heap.objs.size [(key, r)] → (∃ φ, u' = .ext φ) → Q (.ref s.heap.objs.size) (upd H2 s.heap.objs.size u') | _ => False) I1 q1) fun ws s2 ⟨ps, H2, I2, rel, qq⟩ => ?_
  match ps, rel, qq with
  | [(x, y)], rel, qq =>
    obtain ⟨a, ra, key, r, rfl, rfl, hka, hra, hH, q2⟩ := qq
    have hd0 : DicO X.prog X.w X.K H2 s.heap.objs.size emptyO [] [] := ⟨hH, hb, ⟨⟨rfl, rfl, rfl⟩, #[], 0, rfl, rfl⟩, .nil, List.nodup_nil, Nat.zero_le _⟩
    obtain ⟨w1a, w1b, rfl, r1⟩ : ∃ w1a w1b, ws = [(w1a, w1b)] ∧ RelV (.ref a) w1a ∧ RelV (.ref ra) w1b := by
      cases rel with
      | @cons x y l1 l2 r1 r2 =>
        cases r2
        exact ⟨y.1, y.2, rfl, r1⟩
    obtain rfl : w1a = .ref a := r1.1
    obtain rfl : w1b = .ref ra := r1.2
    refine ⟨[(keyN key, a, .ref ra)], ⟨rfl, rfl, key_isN I2 hka, True.intro⟩, dic_of I2 hd0, fun h' tk hm' hs => wpAny_pure ?_⟩
    obtain ⟨ob', es, ep, g1, g2, g3, g4, _, _⟩ := hm'
    have tt : TupK X.K H2 (upd H2 s.heap.objs.size (dHO s.heap.objs.size ob')) := tt_updX hH
    have I3 : Inv X pins σ (upd H2 s.heap.objs.size (dHO s.heap.objs.size ob')) { s2 with heap := h', toks := tk } := d_write (t' := tk) I2 (by rw [hH]; exact True.intro) hs ⟨ob', g1⟩ ⟨g1, ⟨ob', g1⟩, fun h1 h2 p q => q ob' p⟩
    exact ⟨.ref s.heap.objs.size, _, I3, rfl, q2 _ ⟨ob', [(keyN key, a, .ref ra)], ⟨upd_same, hb, ⟨g2, es, ep, g3, g4⟩, .cons ⟨rfl, hka.tt tt, ra, rfl, tt.1 _ _ hra⟩ .nil, by simp, by simp⟩⟩ ⟨_, rfl⟩⟩
/-- a method of a dict -/
theorem pe_bmD {name : Str} {apos cpos : Pos} {id : String} {r : V → List V → Hp → VK → Prop} (slot : Slot "dict" name id) (hty : typeOf (.builtin id) = pure (.type "method_descriptor")) (hm : MtR X id r) (ho : PE X o to) (ha : PA X (e :: es) t)
    (hbase : attributeBase o name X.env (eval o X.env) = eval o X.env := by rfl)
    (hfew : ((backTo cpos (starEach (e :: es) X.env)).all (fun x => !x.1) && (backToKw cpos (keywordEach [] X.env)).all (fun x => x.1.isSome) && decide ((e :: es).length + ([] : List Keyword).length + (if ([] : List Keyword).isEmpty then 0 else 1) < 30)) = true := by rfl)
    (hline : (apos.endLine == cpos.line) = true := by rfl) (hs : starEach (e :: es) X.env = (false, eval e X.env) :: starEach es X.env := by rfl) (hplain : (backTo cpos (starEach es X.env)).any (·.1) = false := by rfl) :
    PE X (.Call (.Attribute o name apos) (e :: es) [] cpos) (fun σ H Q => to σ H fun x H1 => (∃ d b, x = .ref d ∧ DicAt X.prog X.w X.K H1 d b) ∧ t σ H1 fun xs H2 => r x xs H2 Q) := by
  refine ⟨fun pins s σ H Q I h => wpAny_Call_method_late hbase hfew hline rfl (thn (ho.run pins s σ H _ I h) fun v s1 ⟨x, H1, I1, r1, ty, q1⟩ => ?_)⟩
  obtain ⟨d, b, rfl, hd⟩ := ty
  obtain rfl : v = .ref d := r1
  have h1 := dic_type I1 hd
  refine ⟨"dict", id, PySem.F.plainAttrs_dict, slot, hty, h1, fun a ea => ?_, ?_⟩
  · cases ea
    obtain ⟨ob, xs, hd⟩ := hd
    exact ⟨ob, (I1.hok d _ hd.at_).1, hd.ob.1.2.1⟩
  have hA := ha.run cpos pins s1 σ H1 _ I1 q1
  rw [hs] at hA ⊢
  refine Calls.callWith_builtin (by show (false || (backTo cpos (starEach es X.env)).any (·.1)) = false; rw [hplain] <;> rfl) (Calls.evalArgs_plain (thn hA fun us s2 ⟨vs, H2, I2, r2, q2⟩ => hm pins s2 σ H2 (.ref d) vs (.ref d) us Q I2 rfl r2 q2))
/-! walks -/
def ItN (d : Addr) (o : Obj) (xs : List Ent) : It :=
  ⟨fun i H => H d = some (dHO d o) ∧ i < xs.length, fun i H x H' => H' = H ∧ ∃ e, xs[i]? = some e ∧ x = .ref e.2.1, fun i H => H d = some (dHO d o) ∧ xs.length ≤ i⟩
theorem turn_N {P : Program} {w : World} {K : PySem.W.Frag} {tg : Expr} {d : Addr} {o : Obj} {xs : List Ent} {es : Array DictEntry} {ep : Nat} (it : Addr) (hod : o.data = .dict es ep) (hes : es.toList = xs.map (entryOfKey (nestedKind P w))) : Turn P w K tg (ItN d o xs) [it] it (fun i h => h.IsKeyIter it d i xs.length ep) := by
  have hsz : es.size = xs.length := by
    have := congrArg List.length hes
    rw [List.length_map] at this
    simpa using this
  refine ⟨by simp, fun i h st b hb => ?_, fun i h h' st k => st.at fun oi e => k it (by simp) oi e, ?_, ?_, fun A i s Q E st h => ?_⟩
  · obtain rfl : b = it := by simpa using hb
    obtain ⟨oi, e, c, dd⟩ := st
    exact ⟨oi, e, fun v z => by rw [dd] at z; cases z⟩
  · rintro X rfl rfl rfl hc i pins s σ H E I hf st ⟨hd, hi⟩
    obtain ⟨f0, f1, f2, f3, f4, f5⟩ := hf it (by simp)
    have hgd := (I.hok d _ hd).1
    have hx : xs[i]? = some xs[i] := List.getElem?_eq_getElem hi
    have hen : es[i]? = some (entryOfKey (nestedKind X.prog X.w) xs[i]) := by
      rw [← Array.getElem?_toList, hes, List.getElem?_map, hx]
      rfl
    refine next_key_item st hgd hod hsz hen fun h' st' sb => ?_
    have I1 : Inv X pins σ H { s with heap := h' } := I.turned (t' := s.toks) (fun b ob hb e => (sb.2 b hb).trans e) f0 f1 f3 f4 f5
    obtain ⟨oi, e, c, dd⟩ := id st'
    exact ⟨_, rfl, go_of (s := { s with heap := h' }) e c dd (by decide) ⟨.ref xs[i].2.1, H, I1, rfl, ⟨rfl, xs[i], hx, rfl⟩, st', fun b hb => (hf b hb).1⟩⟩
  · rintro X rfl rfl rfl hc i pins s σ H E I hf st ⟨hd, hi⟩
    obtain ⟨f0, f1, f2, f3, f4, f5⟩ := hf it (by simp)
    exact next_key_end (I.ok.hd hc) st (I.hok d _ hd).1 hod hsz hi fun h' eb => ⟨rfl, I.turned (t' := s.toks) (fun b ob hb e => eb b ob hb e) f0 f1 f3 f4 f5⟩
  · refine wpAny_pyIter_slot st.typeIs PySem.F.slot_dict_keyiterator_iter (wpAny_call_entry PySem.F.slot_dict_keyiterator_iter st.typeIs PySem.F.entry_dict_keyiterator_iter ?_ (PySem.F.args_dict_keyiterator_iter_1 _))
    show wpAny _ _ (ret (.ref it)) _ _ s
    exact wpAny_pure ⟨_, rfl, "dict_keyiterator", _, st.typeIs, PySem.F.slot_dict_keyiterator_next.lookup, h⟩
def iN (X : Cx) (td : TE) : TI := fun σ H R => td σ H fun x H1 => ∃ d o xs b, x = .ref d ∧ DicO X.prog X.w X.K H1 d o xs b ∧ R (ItN d o xs) H1
theorem pi_N {tg : Expr} (he : PE X e td) : PI X tg e (iN X td) := by
  refine ⟨fun pins s σ H R I h => thn (he.run pins s σ H _ I h) fun u s1 ⟨x, H1, I1, rx, d, o, xs, b, ex, hd, q⟩ => ?_⟩
  subst ex
  obtain rfl : u = Value.ref d := rx
  obtain ⟨hx, es, ep, hdt, hes⟩ := hd.ob
  have hsz : es.size = xs.length := by
    have := congrArg List.length hes
    rw [List.length_map] at this
    simpa using this
  refine iter_keys hd.sys (I1.hok d _ hd.at_).1 hx hdt (pi_one (tk := s1.toks) I1 _ (turn_N _ hdt hes) ⟨_, Heap.get?_push_size _ rfl, rfl, ?_⟩ q)
  rw [hsz]
  rfl
end
end Tk
end
section
namespace Tk
open PySem PySem.Spec PyProof.Rows L2
def G_behind (ds : List PD) (d : PD) : Prop := ∃ (s : Mp) (w : Wd), w.ok ∧ s.2.length ≤ 90000 ∧ ds = [dMp s, dW w] ∧ d = dMp (behind s w)
theorem key_rp {K : PySem.W.Frag} {av : Addr → Prop} {H : Hp} {s : Mp} {a : Addr} (h : KeyAt K H s a) : Rp K av H (.ref a) (dMp s) := by
  obtain ⟨b, h1, h2⟩ := h
  refine .tup h1 (.cons (.int _) (.cons ?_ .nil))
  rw [dIs_ints]
  refine .tup h2 ?_
  have e : (s.2.map fun (k : Nat) => V.int (k : Int)) = (s.2.map fun (k : Nat) => (k : Int)).map V.int := by rw [List.map_map]; rfl
  rw [e]
  exact RpA.ofInts _
theorem rp_key {K : PySem.W.Frag} {av : Addr → Prop} {H : Hp} {s : Mp} {v : V} (h : Rp K av H v (dMp s)) : ∃ a, v = .ref a ∧ KeyAt K H s a := by
  cases h with
  | tup h1 h2 =>
    rename_i a xs
    cases h2 with
    | cons r1 r2 =>
      cases r2 with
      | cons r2 r3 =>
        cases r3
        cases r1
        rw [dIs_ints] at r2
        cases r2 with
        | tup h3 h4 =>
          rw [h4.ints, List.map_map] at h3
          exact ⟨a, rfl, _, h1, h3⟩
theorem row_rp {K : PySem.W.Frag} {av : Addr → Prop} {H : Hp} {r : List Wd} {a : Addr} (h : SqT K H a (rowV r)) : Rp K av H (.ref a) (dRow r) := by
  have e : rowV r = (r.map wtx).map V.str := by unfold rowV; rw [List.map_map]; rfl
  have e2 : dRow r = .tuple ((r.map wtx).map .str) := by unfold dRow; rw [List.map_map]; rfl
  rw [e] at h
  rw [e2]
  exact .tup h (RpA.ofStrs _)
theorem rp_row {K : PySem.W.Frag} {av : Addr → Prop} {H : Hp} {r : List Wd} {v : V} (h : Rp K av H v (dRow r)) : ∃ a, v = .ref a ∧ SqT K H a (rowV r) := by
  have e : rowV r = (r.map wtx).map V.str := by unfold rowV; rw [List.map_map]; rfl
  have e2 : dRow r = .tuple ((r.map wtx).map .str) := by unfold dRow; rw [List.map_map]; rfl
  rw [e2] at h
  cases h with
  | tup h1 h2 =>
    rw [h2.strs] at h1
    rw [e]
    exact ⟨_, rfl, h1⟩
section
variable {P : Program} {wd : World} {K : PySem.W.Frag} {mg : Str → Option Value} {base : Heap}
theorem ok_map_behind {f : Addr} {fd : FuncData} (MW : CalD P wd K mg base CX0 2 "map_with" pmap_with [] (spD K G_map_with)) (LM : CalD P wd K mg base CX0 1 "least_map" pleast_map [] (spD K G_least_map)) (F : FnP K "map_behind" smap_behind [] f fd) : FnOk P wd K mg base CX0 3 f fd pmap_behind (spD K G_behind) := by
  refine fn_okD F cmap_behind (fun ds d h => ?_) (fun cdv A outer s H E av ds d hr hG => ?_)
  · obtain ⟨_, _, _, _, rfl, _⟩ := h
    rfl
  · obtain ⟨s0, w, hw, hl, rfl, rfl⟩ := hG
    have hnd := cmap_behind.nd
    have := mw_len s0 w
    have := hw.2.1
    refine ss_cons (s_unp [2, 3] (pg_tup rfl (pgs_cons (pg_name hnd rfl (by first | exact Or.inl rfl | exact Or.inr rfl)) (pgs_cons (pg_name hnd rfl (by first | exact Or.inl rfl | exact Or.inr rfl)) pgs_nil))) (ds := [dI (mw s0 w).1, dIs (mw s0 w).2]) (c_call E0 MW hr (by decide) pass0 (ea_c (e_ix (e_var 0) e_int (d := dI s0.1) (atI_nat (j := 0) rfl)) (ea_c (e_ix (e_var 0) e_int (d := dIs s0.2) (atI_nat (j := 1) rfl)) (ea_c (e_var 1) ea_nil))) ⟨s0, w, hw, by omega, rfl, rfl⟩) rfl ?_)
    exact ss_one (s_ret (c_call E0 LM hr (by decide) pass0 (ea_c (e_var 2) (ea_c (e_var 3) ea_nil)) ⟨(mw s0 w).1, (mw s0 w).2, by omega, rfl, rfl⟩) ⟨rfl, rfl⟩)
def spNM (P : Program) (w : World) (K : PySem.W.Frag) : Sp := fun vs H Q _ => ∃ dk dl rf known last few, vs = [.ref dk, .ref dl, .ref rf] ∧ DicAt P w K H dk known ∧ DicAt P w K H dl last ∧ SqT K H rf (rowV few) ∧ okR few ∧ few.length ≤ 3 ∧ last.length ≤ 100 ∧ BkOk 100 last ∧
  ∀ p H', H p = none → Same H H' → DicAt P w K H' p (nextM known last few) → Q (.ref p) H'
def spCM (P : Program) (w : World) (K : PySem.W.Frag) : Sp := fun vs H Q _ => ∃ d b, vs = [.ref d] ∧ DicAt P w K H d b ∧ Q .non H
def spAT (P : Program) (w : World) (K : PySem.W.Frag) : Sp := fun vs H Q _ => ∃ d b, vs = [.ref d] ∧ DicAt P w K H d b ∧ ∀ v H', Same H H' → Rp K (fun _ => False) H' v (toldD b) → Q v H'
theorem fold_take {α β : Type} (f : β → α → β) (b : β) {l : List α} {i : Nat} {x : α} (h : l[i]? = some x) : (l.take (i + 1)).foldl f b = f ((l.take i).foldl f b) x := by
  rw [take_snoc h, List.foldl_append]
  rfl
theorem ok_check_many {f : Addr} {fd : FuncData} (B : Bt mg) (C : Cn K mg) (F : FnP K "check_many" scheck_many [] f fd) : FnOk P wd K mg base CX0 1 f fd pcheck_many (spCM P wd K) := by
  refine F.ok ccheck_many (fun vs H Q E hs => ?_) (fun cdv A outer s H vs Q E hr hs => ?_)
  · obtain ⟨_, _, rfl, _⟩ := hs
    rfl
  obtain ⟨d, b, rfl, hd, hQ⟩ := hs
  have hsz : b.length ≤ 1000 := by
    obtain ⟨o, xs, h⟩ := hd
    exact h.sz
  refine ⟨WSs (cxOf CX0 P wd K mg base Ncheck_many "check_many" (defScope scheck_many) f cdv A outer s H E).nox (defBody scheck_many), PSs.nox pss_ws, ?_⟩
  show WSs _ _ _ [some (.ref d)] H
  obtain ⟨t, gM⟩ := C.mmp
  refine wss_of (pss_one (ps_if (pt_cmpR op_gt (pe_callB cr_lenN rfl B.len PySem.boot_len (pa_cons (pe_var (i := 0) rfl (.inl rfl)) pa_nil) (by decide) (by decide)) (pe_glob (v := .int 1200) rfl gM ⟨t, rfl⟩ (by decide)) (nobehind _ (by decide) (by decide))) pss_ws pss_nil)) ?_
  refine ⟨.ref d, rfl, d, b, rfl, hd, b.length, 1200, rfl, rfl, decide ((1200 : Int) < ((b.length : Nat) : Int)), rfl, ?_⟩
  rw [decide_eq_false (by omega)]
  exact iteF hQ
theorem addM_len (known found : Bk) (e : Mp × List Wd) (w : Wd) : (addM known found e w).length ≤ found.length + 1 := by
  unfold addM
  split
  · exact Nat.le_succ _
  · rw [List.length_append]
    exact Nat.le_refl _
theorem getK_of : ∀ {b : Bk} {e : Mp × List Wd}, (b.map (·.1)).Nodup → e ∈ b → getK b e.1 = some e.2
  | x :: b, e, hn, h => by
    unfold getK
    rw [List.map_cons, List.nodup_cons] at hn
    rcases List.mem_cons.mp h with rfl | h
    · rw [if_pos rfl]
    · rw [if_neg fun z => hn.1 (by rw [z]; exact List.mem_map.mpr ⟨e, h, rfl⟩)]
      exact getK_of hn.2 h
theorem e_one_env {K : PySem.W.Frag} {H : Hp} {σ : L2.St} {ρ : List Sl} (hl : σ.length = ρ.length) (h : ∀ (i : Nat) (s : Sl), ρ[i]? = some s → ∃ o, σ[i]? = some o ∧ SlOk K ⟨fun _ => False, .no⟩ H o s) : Env' K H (fun _ => False) ⟨fun _ => False, .no⟩ σ H ρ :=
  ⟨Kp.refl _ _, fun _ z => z, fun _ z => z.elim, ⟨fun _ z => z.elim, trivial⟩, hl, h⟩
theorem ok_next_maps {f : Addr} {fd : FuncData} (MB : CalD P wd K mg base CX0 3 "map_behind" pmap_behind [] (spD K G_behind)) (F : FnP K "next_maps" snext_maps [] f fd) : FnOk P wd K mg base CX0 4 f fd pnext_maps (spNM P wd K) := by
  refine F.ok cnext_maps (fun vs H Q E hs => ?_) (fun cdv A outer s H vs Q E hr hs => ?_)
  · obtain ⟨_, _, _, _, _, _, rfl, _⟩ := hs
    rfl
  obtain ⟨dk, dl, rf, known, last, few, rfl, hK, hL, hF, hfo, hfl, hll, hbk, hQ⟩ := hs
  refine ⟨WSs (cxOf CX0 P wd K mg base Nnext_maps "next_maps" (defScope snext_maps) f cdv A outer s H E).nox (defBody snext_maps), PSs.nox pss_ws, ?_⟩
  have hnd := cnext_maps.nd
  have hu := hr.units
  show WSs _ _ _ [some (.ref dk), some (.ref dl), some (.ref rf), none, none, none, none] H
  refine wss_of (pss_cons (ps_set (i := 3) hnd rfl (.inl rfl) pe_newN) pss_ws) ?_
  intro p u hp hd0 hφ
  have sm0 : Same H (upd H p u) := same_new hp
  generalize upd H p u = H1 at hd0 sm0 ⊢
  show WSs _ _ _ [some (.ref dk), some (.ref dl), some (.ref rf), some (.ref p), none, none, none] H1
  obtain ⟨ol, xl, hL0⟩ := hL
  refine wss_of (pss_cons (ps_for PassesOwn.never rfl (pi_N (pe_var (i := 1) rfl (.inl rfl))) (pg_name (i := 4) hnd rfl (.inl rfl)) (pss_one (ps_for PassesOwn.never rfl (pi_tup (pe_var (i := 2) rfl (.inl rfl))) (pg_name (i := 5) hnd rfl (.inl rfl)) pss_ws))) pss_ws) ?_
  have lenL := hL0.en.len
  refine ⟨.ref dl, rfl, dl, ol, xl, last, rfl, ⟨sm0 _ _ hL0.at_, hL0.sys, hL0.ob, hL0.en.tt (Kp.same (k := none) sm0).tt, hL0.nd, hL0.sz⟩, ?_⟩
  refine ⟨fun i n σ' H' => n = xl.length - i ∧ i ≤ xl.length ∧ Same H H' ∧ DicAt P wd K H' p ((last.take i).foldl (rowM known few) []) ∧ ((last.take i).foldl (rowM known few) []).length ≤ 3 * i ∧ ∃ s4 s5 s6, σ' = [some (.ref dk), some (.ref dl), some (.ref rf), some (.ref p), s4, s5, s6], ⟨_, rfl, Nat.zero_le _, sm0, hd0, Nat.zero_le _, none, none, none, rfl⟩, ?_⟩
  rintro i n σ' H' ⟨rfl, hi, sm, hd, hz, s4, s5, s6, rfl⟩
  by_cases hlt : i < xl.length
  · refine .inr ⟨⟨sm _ _ hL0.at_, hlt⟩, fun σ' H' => Same H H' ∧ DicAt P wd K H' p ((last.take (i + 1)).foldl (rowM known few) []) ∧ ((last.take (i + 1)).foldl (rowM known few) []).length ≤ 3 * (i + 1) ∧ ∃ s4 s5 s6, σ' = [some (.ref dk), some (.ref dl), some (.ref rf), some (.ref p), s4, s5, s6], fun σ' H' c' => ⟨xl.length - (i + 1), by omega, rfl, hlt, c'⟩, fun y H'' hy => ?_⟩
    obtain ⟨eH, x, hx, rfl⟩ := hy
    rw [eH]
    clear eH
    generalize H' = H'' at sm hd ⊢
    obtain ⟨e, he, hE⟩ := hL0.en.get hx
    obtain ⟨e1, e2, e3⟩ := hbk e (List.mem_of_getElem? he)
    have hkl : e.1.2.length ≤ 90000 := by
      rw [← e2]
      have h1 := leastM_len (whole e.2).1 (whole e.2).2
      have h2 := whole_len e1
      show (leastM (whole e.2).1 (whole e.2).2).2.length ≤ _
      omega
    rw [fold_take (rowM known few) [] he]
    generalize (last.take i).foldl (rowM known few) [] = f0 at hd hz ⊢
    show tFor _ _ _ _ [some (.ref dk), some (.ref dl), some (.ref rf), some (.ref p), some (.ref x.2.1), s5, s6] H''
    refine ⟨.ref rf, rfl, rf, rfl, ⟨rowV few, (Kp.same (k := none) sm).sqT hF⟩, for_tup (K := K) (xs := rowV few) (fun j σ' H' => Same H H' ∧ DicAt P wd K H' p ((few.take j).foldl (fun f w => addM known f e w) f0) ∧ ((few.take j).foldl (fun f w => addM known f e w) f0).length ≤ 3 * i + j ∧ ∃ s5 s6, σ' = [some (.ref dk), some (.ref dl), some (.ref rf), some (.ref p), some (.ref x.2.1), s5, s6]) ⟨sm, hd, hz, s5, s6, rfl⟩ (fun j σ' H' _ c => (Kp.same (k := none) c.1).sqT hF) ?_ ?_⟩
    · rintro j y σ' H' hy ⟨sm, hd, hz, s5, s6, rfl⟩
      obtain ⟨w, hw, rfl⟩ : ∃ w, few[j]? = some w ∧ y = .str (wtx w) := by
        unfold rowV at hy
        rw [List.getElem?_map] at hy
        cases e : few[j]? with
        | none => rw [e] at hy; cases hy
        | some w => rw [e] at hy; cases hy; exact ⟨w, rfl, rfl⟩
      have hwo := hfo w (List.mem_of_getElem? hw)
      have hj3 := (List.getElem?_eq_some_iff.mp hw).1
      rw [fold_take (fun f w => addM known f e w) f0 hw]
      generalize (few.take j).foldl (fun f w => addM known f e w) f0 = f1 at hd hz ⊢
      show WSs _ _ _ [some (.ref dk), some (.ref dl), some (.ref rf), some (.ref p), some (.ref x.2.1), some (.str (wtx w)), s6] H'
      have kE : KeyAt K H' e.1 x.2.1 := hE.2.1.tt (Kp.same (k := none) sm).tt
      refine wss_of (pss_cons (ps_set (i := 6) hnd rfl (.inl rfl) pe_we) pss_ws) ?_
      refine (c_call (ds := [dMp e.1, dW w]) E0 MB hr (by decide) pass0 (ea_c (e_var 4) (ea_c (e_var 5) ea_nil)) ⟨e.1, w, hwo, hkl, rfl, rfl⟩) H' _ _ H' (e_one_env (ρ := [.no, .no, .no, .no, .im (dMp e.1), .im (dW w), .no]) rfl fun n sl hn => ?_) _ fun v d H2 k1 o1 r1 p1 => ?_
      · match n with
        | 0 => cases hn; exact ⟨_, rfl, trivial⟩
        | 1 => cases hn; exact ⟨_, rfl, trivial⟩
        | 2 => cases hn; exact ⟨_, rfl, trivial⟩
        | 3 => cases hn; exact ⟨_, rfl, trivial⟩
        | 4 => cases hn; exact ⟨_, rfl, _, rfl, key_rp kE⟩
        | 5 => cases hn; exact ⟨_, rfl, _, rfl, .str _⟩
        | 6 => cases hn; exact ⟨_, rfl, trivial⟩
        | n + 7 => simp at hn
      subst p1
      obtain ⟨ak, rfl, hk⟩ := rp_key r1
      have s2 : Same H' H2 := k1.toSame
      have sm2 : Same H H2 := fun a o z => s2 a o (sm a o z)
      have hd2 := hd.same s2
      have kE2 := kE.tt k1.tt
      show WSs _ _ _ [some (.ref dk), some (.ref dl), some (.ref rf), some (.ref p), some (.ref x.2.1), some (.str (wtx w)), some (.ref ak)] H2
      clear kE k1 o1 r1 hd
      refine wss_of (pss_one (ps_if (pw_and (pt_cmpR (op_notInN hu) (pe_var (i := 6) rfl (.inl rfl)) (pe_var (i := 0) rfl (.inl rfl)) rfl) (pw_and1 (pt_cmpR (op_notInN hu) (pe_var (i := 6) rfl (.inl rfl)) (pe_var (i := 3) rfl (.inl rfl)) rfl))).pt (pss_one (ps_asg (pe_op op_catA (pe_ixN hu (pe_var (i := 1) rfl (.inl rfl)) (pe_var (i := 4) rfl (.inl rfl)) (fun _ _ => rfl)) (pe_tup (pa_cons (pe_var (i := 5) rfl (.inl rfl)) pa_nil))) (pg_sub (pe_var (i := 3) rfl (.inl rfl)) (pe_var (i := 6) rfl (.inl rfl)) (set_N hu)))) pss_nil)) ?_
      have eA : addM known f1 e w = if (getK known (behind e.1 w)).isSome || (getK f1 (behind e.1 w)).isSome then f1 else f1 ++ [(behind e.1 w, e.2 ++ [w])] := rfl
      refine ⟨.ref ak, rfl, .ref dk, rfl, ak, dk, behind e.1 w, known, rfl, rfl, hk, hK.same sm2, _, rfl, ?_⟩
      have hzA := addM_len known f1 e w
      cases hg1 : getK known (behind e.1 w) with
      | some r1 =>
        refine iteF (iteF ⟨sm2, ?_, by omega, _, _, rfl⟩)
        rw [eA, hg1]
        exact hd2
      | none =>
        refine iteT ⟨.ref ak, rfl, .ref p, rfl, ak, p, behind e.1 w, f1, rfl, rfl, hk, hd2, _, rfl, ?_⟩
        cases hg2 : getK f1 (behind e.1 w) with
        | some r1 =>
          refine iteF ⟨sm2, ?_, by omega, _, _, rfl⟩
          rw [eA, hg1, hg2]
          exact hd2
        | none =>
          have eB : addM known f1 e w = f1 ++ [(behind e.1 w, e.2 ++ [w])] := by
            rw [eA, hg1, hg2]
            rfl
          rw [eB] at hzA ⊢
          have fin : ∀ rn H5, Same H2 H5 → SqT K H5 rn (rowV (e.2 ++ [w])) → gSub (tVar 3) (tVar 6) (rSetN (cxOf CX0 P wd K mg base Nnext_maps "next_maps" (defScope snext_maps) f cdv A outer s H E).nox) (.ref rn) [some (.ref dk), some (.ref dl), some (.ref rf), some (.ref p), some (.ref x.2.1), some (.str (wtx w)), some (.ref ak)] H5 fun σ' H' => Same H H' ∧ DicAt P wd K H' p (f1 ++ [(behind e.1 w, e.2 ++ [w])]) ∧ (f1 ++ [(behind e.1 w, e.2 ++ [w])]).length ≤ 3 * i + (j + 1) ∧ ∃ s5 s6, σ' = [some (.ref dk), some (.ref dl), some (.ref rf), some (.ref p), some (.ref x.2.1), s5, s6] := by
            intro rn H5 s5 hrn
            refine ⟨.ref p, rfl, .ref ak, rfl, p, ak, rn, behind e.1 w, f1, e.2 ++ [w], rfl, rfl, rfl, hk.tt (Kp.same (k := none) s5).tt, hd2.same s5, hrn, hg2, by omega, fun u hu2 _ => ⟨fun a o z => ?_, hu2, by omega, _, _, rfl⟩⟩
            rw [upd_ne (ne_of_none z hp)]
            exact s5 a o (sm2 a o z)
          have hrow : rowV (e.2 ++ [w]) = rowV e.2 ++ [.str (wtx w)] := by
            unfold rowV
            rw [List.map_append]
            rfl
          refine iteT ⟨.ref dl, rfl, .ref x.2.1, rfl, x.2.1, dl, e.1, last, e.2, rfl, rfl, kE2, DicAt.same sm2 ⟨ol, xl, hL0⟩, getK_of hL0.nd (List.mem_of_getElem? he), fun ra hra => ?_⟩
          refine ⟨.str (wtx w), rfl, by show 1 ≤ sizeLine; decide, fun q hq => ⟨ra, q, rowV e.2, [.str (wtx w)], rfl, rfl, (Kp.new (k := none) hq).sqT hra, SqT.of upd_same, ?_, fun z => ?_, (fun _ z => nomatch z), fun _ _ p2 hp2 => ?_⟩⟩
          · have e3' : e.2.length ≤ 100 := e3
            unfold rowV
            rw [List.length_map]
            exact Nat.le_trans (show e.2.length + 1 ≤ 1000 by omega) (by decide)
          · refine fin q _ (same_new hq) ?_
            rw [hrow, z]
            exact SqT.of upd_same
          · refine fin p2 _ (fun a o z => same_new hp2 a o (same_new hq a o z)) ?_
            rw [hrow]
            exact SqT.of upd_same
    · rintro σ' H' ⟨sm, hd, hz, s5, s6, rfl⟩
      have ei : few.take (rowV few).length = few := by
        unfold rowV
        rw [List.length_map, List.take_length]
      have hz' : (rowV few).length ≤ 3 := by unfold rowV; rw [List.length_map]; exact hfl
      rw [ei] at hd hz
      exact ⟨sm, hd, by show (few.foldl (fun f w => addM known f e w) f0).length ≤ _; omega, _, s5, s6, rfl⟩
  · refine .inl ⟨⟨sm _ _ hL0.at_, by omega⟩, ?_⟩
    have ei : last.take i = last := List.take_of_length_le (by omega)
    rw [ei] at hd
    refine wss_of (pss_one (ps_ret (pe_var (i := 3) rfl (.inl rfl)))) ⟨.ref p, rfl, hQ p H' hp sm hd⟩
end
end Tk
end
section
namespace Tk
open PySem PySem.Spec PyProof.Rows L2
abbrev toldE (e : Mp × List Wd) : PD := .tuple [dMp e.1, dRow e.2]
theorem flat_toldE (e : Mp × List Wd) : flatD 3 (toldE e) := by
  intro x hx
  rcases List.mem_cons.mp hx with rfl | hx
  · intro y hy
    rcases List.mem_cons.mp hy with rfl | hy
    · trivial
    · rw [List.mem_singleton.mp hy]
      intro z hz
      obtain ⟨k, _, rfl⟩ := List.mem_map.mp hz
      trivial
  · rw [List.mem_singleton.mp hx]
    intro y hy
    obtain ⟨w, _, rfl⟩ := List.mem_map.mp hy
    trivial
section
variable {P : Program} {wd : World} {K : PySem.W.Frag} {mg : Str → Option Value} {base : Heap}
theorem ok_as_told {f : Addr} {fd : FuncData} (B : Bt mg) (F : FnP K "as_told" sas_told [] f fd) : FnOk P wd K mg base CX0 1 f fd pas_told (spAT P wd K) := by
  refine F.ok cas_told (fun vs H Q E hs => ?_) (fun cdv A outer s H vs Q E hr hs => ?_)
  · obtain ⟨_, _, rfl, _⟩ := hs
    rfl
  obtain ⟨d, b, rfl, ⟨o, xs, hd⟩, hQ⟩ := hs
  refine ⟨WSs (cxOf CX0 P wd K mg base Nas_told "as_told" (defScope sas_told) f cdv A outer s H E).nox (defBody sas_told), PSs.nox pss_ws, ?_⟩
  have hnd := cas_told.nd
  have hu := hr.units
  show WSs _ _ _ [some (.ref d), none] H
  refine wss_of (pss_one (ps_ret (pe_tupleOf rfl B.tuple (pe_lc (own := [("there", 1)]) (te := tTup (tCons (tVar 1) (tCons (tOp (rIxN (cxOf CX0 P wd K mg base Nas_told "as_told" (defScope sas_told) f cdv A outer s H E).nox) (tVar 0) (tVar 1)) tNil))) rfl hnd (pi_N (pe_var (i := 0) rfl (by first | exact Or.inl rfl | exact Or.inr (Or.inl rfl)))) (blkOk_by rfl) (fun _ _ _ _ _ => pg_name (i := 1) hnd rfl (Or.inl rfl)) (fun _ _ _ _ _ => pts_nil)
    (fun _ _ _ _ _ => pe_tup (pa_cons (pe_var (i := 1) rfl (by first | exact Or.inl rfl | exact Or.inr (Or.inl rfl) | exact Or.inr (Or.inr rfl))) (pa_cons (pe_ixN hu (pe_var (i := 0) rfl (by first | exact Or.inl rfl | exact Or.inr (Or.inl rfl) | exact Or.inr (Or.inr rfl))) (pe_var (i := 1) rfl (by first | exact Or.inl rfl | exact Or.inr (Or.inl rfl) | exact Or.inr (Or.inr rfl))) (fun _ _ => rfl)) pa_nil))))))) ?_
  have lenL := hd.en.len
  refine ⟨.ref d, rfl, d, o, xs, b, rfl, hd, fun D hD => ?_⟩
  refine ⟨fun i n H' => n = xs.length - i ∧ i ≤ xs.length ∧ Same H H' ∧ ∃ acc, H' D = some (.lst acc) ∧ RpA K (fun _ => True) H' acc ((b.take i).map toldE), ⟨_, rfl, Nat.zero_le _, same_new hD, [], upd_same, .nil⟩, ?_⟩
  rintro i n H' ⟨rfl, hi, sm, acc, hacc, racc⟩
  by_cases hlt : i < xs.length
  · refine .inr ⟨⟨sm _ _ hd.at_, hlt⟩, fun H' => Same H H' ∧ ∃ acc, H' D = some (.lst acc) ∧ RpA K (fun _ => True) H' acc ((b.take (i + 1)).map toldE), fun H' c' => ⟨xs.length - (i + 1), by omega, rfl, hlt, c'⟩, fun y H'' hy => ?_⟩
    obtain ⟨eH, x, hx, rfl⟩ := hy
    rw [eH]
    clear eH
    obtain ⟨e, he, hE⟩ := hd.en.get hx
    have kE : KeyAt K H' e.1 x.2.1 := hE.2.1.tt (Kp.same (k := none) sm).tt
    refine ⟨rfl, iteT (B := Same H H' ∧ ∃ acc, H' D = some (.lst acc) ∧ RpA K (fun _ => True) H' acc ((b.take (i + 1)).map toldE)) ?_⟩
    refine ⟨.ref x.2.1, rfl, .ref d, rfl, .ref x.2.1, rfl, x.2.1, d, e.1, b, e.2, rfl, rfl, kE, DicAt.same sm ⟨o, xs, hd⟩, getK_of hd.nd (List.mem_of_getElem? he), fun ra hra => ?_⟩
    refine ⟨by show 2 ≤ sizeLine; decide, fun q hq => ⟨acc, same_new hq _ _ hacc, ?_, fun a o z => ?_, _, upd_same, ?_⟩⟩
    · rw [racc.length, List.length_map, List.length_take]
      have := hd.sz
      exact Nat.lt_of_lt_of_le (show min i b.length < 1001 by omega) (by decide)
    · rw [upd_ne (ne_of_none z hD)]
      exact same_new hq a o (sm a o z)
    · rw [take_snoc he, List.map_append]
      have tt : TupK K H' (upd (upd H' q (.tup [.ref x.2.1, .ref ra])) D (.lst (acc ++ [.ref q]))) := ((Kp.new (k := none) (o := .tup [.ref x.2.1, .ref ra]) hq).tt).trans (tt_upd (same_new hq _ _ hacc))
      refine (RpA.mono tt (fun _ _ _ z => absurd trivial z) _ _ racc).append (.one ?_)
      have hq2 : SqT K (upd (upd H' q (.tup [.ref x.2.1, .ref ra])) D (.lst (acc ++ [.ref q]))) q [.ref x.2.1, .ref ra] := (tt_upd (same_new hq _ _ hacc)).1 _ _ (SqT.of upd_same)
      exact .tup hq2 (.cons (key_rp (kE.tt tt)) (.cons (row_rp (tt.1 _ _ hra)) .nil))
  · have ei : b.take i = b := List.take_of_length_le (by omega)
    rw [ei] at racc
    refine .inl ⟨⟨sm _ _ hd.at_, by omega⟩, .inl ⟨D, acc, rfl, SqL.of hacc, fun q hq => hQ _ _ (fun a o z => same_new hq a o (sm a o z)) (.tup (SqT.of upd_same) ?_)⟩⟩
    refine flatA_any (flat_any 3) _ _ (fun z hz => ?_) (RpA.mono (av' := fun _ => True) (Kp.new (k := none) hq).tt (fun _ _ _ z => absurd trivial z) _ _ racc)
    obtain ⟨e, _, rfl⟩ := List.mem_map.mp hz
    exact flat_toldE e
end
end Tk
end
section
namespace Tk
open PySem PySem.Spec PyProof.Rows L2
def NewOf (known f : Bk) : Prop := ∀ e ∈ f, getK known e.1 = none
theorem addM_new {known f : Bk} {e : Mp × List Wd} {w : Wd} (h : NewOf known f) : NewOf known (addM known f e w) := by
  unfold addM
  split
  · exact h
  · rename_i c
    intro x hx
    rcases List.mem_append.mp hx with hx | hx
    · exact h x hx
    · rw [List.mem_singleton.mp hx]
      cases g : getK known (behind e.1 w) with
      | none => rfl
      | some r => rw [g] at c; exact absurd rfl c
theorem rowM_new {known : Bk} {e : Mp × List Wd} : ∀ (few : List Wd) (f : Bk), NewOf known f → NewOf known (rowM known few f e)
  | [], f, h => h
  | w :: few, f, h => rowM_new few _ (addM_new h)
theorem nextM_new (known last : Bk) (few : List Wd) : NewOf known (nextM known last few) := by
  have : ∀ (last f : Bk), NewOf known f → NewOf known (last.foldl (rowM known few) f) := by
    intro last
    induction last with
    | nil => exact fun f h => h
    | cons e last ih => exact fun f h => ih _ (rowM_new few f h)
  exact this last [] fun _ z => nomatch z
theorem keys_apart {known f : Bk} (hk : (known.map (·.1)).Nodup) (hf : (f.map (·.1)).Nodup) (h : NewOf known f) : (known.map (·.1) ++ f.map (·.1)).Nodup := by
  rw [List.nodup_append]
  refine ⟨hk, hf, fun x hx y hy z => ?_⟩
  obtain ⟨e, he, rfl⟩ := List.mem_map.mp hy
  exact getK_none.mp (h e he) (z ▸ hx)
theorem flat_told (b : Bk) : flatD 4 (toldD b) := fun x hx => by
  obtain ⟨e, _, rfl⟩ := List.mem_map.mp hx
  exact flat_toldE e
section
variable {P : Program} {wd : World} {K : PySem.W.Frag} {mg : Str → Option Value} {base : Heap}
theorem DicAt.nd {H : Hp} {d : Addr} {b : Bk} (h : DicAt P wd K H d b) : (b.map (·.1)).Nodup := by
  obtain ⟨o, xs, h⟩ := h
  exact h.nd
theorem DicAt.dom {H : Hp} {d : Addr} {b : Bk} (h : DicAt P wd K H d b) : H d ≠ none := by
  obtain ⟨o, xs, h⟩ := h
  rw [h.at_]
  exact fun z => nomatch z
/-- another dict changed -/
theorem DicAt.other {H : Hp} {d p : Addr} {b : Bk} {u : HO} {φ : Heap → Prop} (h : DicAt P wd K H d b) (hp : H p = some (.ext φ)) (hn : d ≠ p) : DicAt P wd K (upd H p u) d b := by
  obtain ⟨o, xs, h⟩ := h
  exact ⟨o, xs, by rw [upd_ne hn]; exact h.at_, h.sys, h.ob, h.en.tt (tt_updX hp), h.nd, h.sz⟩
theorem ok_least_row {f : Addr} {fd : FuncData} (B : Bt mg) (C : Cn K mg) (MO : CalD P wd K mg base CX0 4 "map_of" pmap_of [] (spD K (G_row fun r => dMp (mapOf r)))) (NM : CalD P wd K mg base CX0 4 "next_maps" pnext_maps [] (spNM P wd K)) (CM : CalD P wd K mg base CX0 1 "check_many" pcheck_many [] (spCM P wd K)) (AT : CalD P wd K mg base CX0 1 "as_told" pas_told [] (spAT P wd K))
    (F : FnP K "least_row" sleast_row [] f fd) : FnOk P wd K mg base CX0 5 f fd pleast_row (spD K G_lr) := by
  refine F.ok cleast_row (fun vs H Q E hs => ?_) (fun cdv A outer s H vs Q E hr hs => ?_)
  · obtain ⟨av, ds, d, _, r, ⟨few, w, _, _, _, rfl, _⟩, _⟩ := hs
    rw [r.length]
    rfl
  obtain ⟨av, ds, d, hdom, r, ⟨few, w, hfo, hfl, hwo, rfl, rfl⟩, hQ⟩ := hs
  have hnd := cleast_row.nd
  have hu := hr.units
  obtain ⟨rf, rfl, hrf⟩ : ∃ rf, vs = [.ref rf, .str (wtx w), .int 3] ∧ SqT K H rf (rowV few) := by
    cases r with
    | cons r1 r2 =>
      cases r2 with
      | cons r2 r3 =>
        cases r3 with
        | cons r3 r4 =>
          cases r4
          cases r2
          obtain ⟨a, rfl, h1⟩ := rp_row r1
          cases r3
          exact ⟨a, rfl, h1⟩
  clear r
  refine ⟨WSs (cxOf CX0 P wd K mg base Nleast_row "least_row" (defScope sleast_row) f cdv A outer s H E).nox (defBody sleast_row), PSs.nox pss_ws, ?_⟩
  show WSs _ _ _ [some (.ref rf), some (.str (wtx w)), some (.int 3), none, none, none, none] H
  -- goal = map_of((shuffle,))
  refine wss_of (pss_cons (ps_set (i := 3) hnd rfl (.inl rfl) pe_we) pss_ws) ?_
  have hw1 : okL [w] := ⟨okR_one hwo, by simp⟩
  refine (c_call (ds := [dRow [w]]) E0 MO hr (by decide) pass0 (ea_c (e_tup (ea_c (e_var 1) ea_nil)) ea_nil) ⟨[w], hw1, rfl, rfl⟩) H _ _ H (e_one_env (ρ := [.no, .im (dW w), .no, .no, .no, .no, .no]) rfl fun n sl hn => ?_) _ fun v d H1 k1 o1 r1 p1 => ?_
  · match n with
    | 0 => cases hn; exact ⟨_, rfl, trivial⟩
    | 1 => cases hn; exact ⟨_, rfl, _, rfl, .str _⟩
    | 2 => cases hn; exact ⟨_, rfl, trivial⟩
    | 3 => cases hn; exact ⟨_, rfl, trivial⟩
    | 4 => cases hn; exact ⟨_, rfl, trivial⟩
    | 5 => cases hn; exact ⟨_, rfl, trivial⟩
    | 6 => cases hn; exact ⟨_, rfl, trivial⟩
    | n + 7 => simp at hn
  subst p1
  obtain ⟨ag, rfl, hg⟩ := rp_key r1
  have sm1 : Same H H1 := k1.toSame
  clear k1 o1 r1
  show WSs _ _ _ [some (.ref rf), some (.str (wtx w)), some (.int 3), some (.ref ag), none, none, none] H1
  -- goal == NOTHING
  refine wss_of (pss_cons (ps_if pt_wt pss_ws pss_nil) pss_ws) ?_
  obtain ⟨aN, bN, gN, n1, n2⟩ := C.nth
  have kN : ∀ H, KeyAt K H (0, []) aN := fun H => ⟨bN, n1 H, n2 H⟩
  have env3 : ∀ H1, KeyAt K H1 (mapOf [w]) ag → Env' K H1 (fun _ => False) ⟨fun _ => False, .no⟩ [some (.ref rf), some (.str (wtx w)), some (.int 3), some (.ref ag), none, none, none] H1 [.no, .no, .no, .im (dMp (mapOf [w])), .no, .no, .no] := fun H1 hg => e_one_env rfl fun n sl hn => by
    match n with
    | 0 => cases hn; exact ⟨_, rfl, trivial⟩
    | 1 => cases hn; exact ⟨_, rfl, trivial⟩
    | 2 => cases hn; exact ⟨_, rfl, trivial⟩
    | 3 => cases hn; exact ⟨_, rfl, _, rfl, key_rp hg⟩
    | 4 => cases hn; exact ⟨_, rfl, trivial⟩
    | 5 => cases hn; exact ⟨_, rfl, trivial⟩
    | 6 => cases hn; exact ⟨_, rfl, trivial⟩
    | n + 7 => simp at hn
  refine (t_eq (c := decide (mapOf [w] = (0, []))) hr (e_var 3) (e_glob (d := dMp (0, [])) ⟨.ref aN, _, gN, rfl, fun av H => key_rp (kN H)⟩) (by rw [dMp_inj, decide_eq_true_iff]) (good_dMp _) (good_dMp _)) H1 _ _ H1 (env3 H1 hg) _ fun H2 k2 o2 => ?_
  have sm2 : Same H H2 := fun a o z => k2.toSame a o (sm1 a o z)
  have hg2 := hg.tt k2.tt
  clear hg k2 o2 sm1
  unfold leastRowD at hQ
  by_cases hz : mapOf [w] = (0, [])
  · rw [if_pos hz] at hQ
    rw [decide_eq_true hz]
    refine iteT ?_
    refine wss_of (pss_one (ps_ret pe_we)) ?_
    refine (e_tup (ea_c e_str (ea_c (e_tup ea_nil) (ea_c e_non ea_nil)))) H2 _ _ H2 (env3 H2 hg2) _ fun v d H3 k3 o3 r3 p3 => ?_
    subst p3
    refine hQ v H3 (fun a o z => k3.toSame a o (sm2 a o z)) (flat_any 2 _ _ (fun x hx => ?_) r3)
    rcases List.mem_cons.mp hx with rfl | hx
    · trivial
    · rcases List.mem_cons.mp hx with rfl | hx
      · exact fun _ z => nomatch z
      · rw [List.mem_singleton.mp hx]
        trivial
  rw [if_neg hz] at hQ
  rw [decide_eq_false hz]
  refine iteF ?_
  show WSs _ _ _ [some (.ref rf), some (.str (wtx w)), some (.int 3), some (.ref ag), none, none, none] H2
  -- known, last
  refine wss_of (pss_cons (ps_set (i := 4) hnd rfl (.inl rfl) (pe_oneN hu (pe_glob (v := .ref aN) rfl gN rfl (by decide)) (pe_tup pa_nil))) pss_ws) ?_
  refine fun p u hp hd0 hφ => ⟨by decide, fun q hq => ⟨aN, q, (0, []), [], rfl, rfl, kN _, SqT.of upd_same, by rw [upd_ne (ne_of_none upd_same hq)]; exact upd_same, fun u1 hd1 hφ1 => ?_⟩⟩
  have sm3 : Same H2 (upd (upd (upd H2 p u) q (.tup [])) p u1) := fun a o z => by
    rw [upd_ne (ne_of_none z hp)]
    exact same_new hq a o (same_new hp a o z)
  generalize upd (upd (upd H2 p u) q (.tup [])) p u1 = H3 at hd1 sm3 ⊢
  clear hd0 hφ hq
  show WSs _ _ _ [some (.ref rf), some (.str (wtx w)), some (.int 3), some (.ref ag), some (.ref p), none, none] H3
  refine wss_of (pss_cons (ps_set (i := 5) hnd rfl (.inl rfl) (pe_oneN hu (pe_glob (v := .ref aN) rfl gN rfl (by decide)) (pe_tup pa_nil))) pss_ws) ?_
  refine fun p2 u2 hp2 hd0 hφ => ⟨by decide, fun q hq => ⟨aN, q, (0, []), [], rfl, rfl, kN _, SqT.of upd_same, by rw [upd_ne (ne_of_none upd_same hq)]; exact upd_same, fun u3 hd2 hφ1 => ?_⟩⟩
  have sm4 : Same H3 (upd (upd (upd H3 p2 u2) q (.tup [])) p2 u3) := fun a o z => by
    rw [upd_ne (ne_of_none z hp2)]
    exact same_new hq a o (same_new hp2 a o z)
  generalize upd (upd (upd H3 p2 u2) q (.tup [])) p2 u3 = H4 at hd2 sm4 ⊢
  clear hd0 hφ hq
  have hd1' := hd1.same sm4
  have hpp : p ≠ p2 := fun z => hd1.dom (by rw [z]; exact hp2)
  have smA : Same H H4 := fun a o z => sm4 a o (sm3 a o (sm2 a o z))
  have hg4 : KeyAt K H4 (mapOf [w]) ag := (hg2.tt (Kp.same (k := none) sm3).tt).tt (Kp.same (k := none) sm4).tt
  have hHp : H p = none := by
    cases e : H p with
    | none => rfl
    | some o => rw [sm2 _ _ e] at hp; cases hp
  show WSs _ _ _ [some (.ref rf), some (.str (wtx w)), some (.int 3), some (.ref ag), some (.ref p), some (.ref p2), none] H4
  clear hd1 sm3 sm4 hp2 hp hg2 sm2
  refine wss_of (pss_cons (ps_for PassesOwn.never rfl (pi_range1 rfl B.range (pa_cons (pe_var (i := 2) rfl (.inl rfl)) pa_nil) rfl) (pg_name (i := 6) hnd rfl (.inl rfl)) pss_ws) pss_ws) ?_
  refine ⟨.int 3, rfl, 3, rfl, by decide, by decide, ?_⟩
  refine for_range (lo := 0) (n := 3) (fun i σ' H' => Same H H' ∧ KeyAt K H' (mapOf [w]) ag ∧ ∃ pl known last s6, σ' = [some (.ref rf), some (.str (wtx w)), some (.int 3), some (.ref ag), some (.ref p), some (.ref pl), s6] ∧ p ≠ pl ∧ DicAt P wd K H' p known ∧ DicAt P wd K H' pl last ∧ BkOk i last ∧ known ≠ [] ∧ last.length ≤ 3 ^ i ∧ known.length ≤ 40 * (i + 1) ∧ stepL few (mapOf [w]) (3 - i) known last = stepL few (mapOf [w]) 3 bk0 bk0)
    ⟨smA, hg4, p2, bk0, bk0, none, rfl, hpp, hd1', hd2, bk0_ok, by decide, by decide, by decide, rfl⟩ ?_ ?_
  · rintro i σ' H' hi ⟨sm, hg, pl, known, last, s6, rfl, hpl, hdk, hdl, hbk, hkn, hll, hkl, hst⟩
    have hp3 : 3 ^ i ≤ 9 := by
      match i, hi with
      | 0, _ => decide
      | 1, _ => decide
      | 2, _ => decide
    have hbk' : BkOk 100 last := fun e he => by
      obtain ⟨a, b, c⟩ := hbk e he
      exact ⟨a, b, by omega⟩
    obtain ⟨nx1, nx2⟩ := nextM_ok (known := known) hbk hfo
    have nx3 : last.length * few.length ≤ 3 ^ i * 3 := Nat.mul_le_mul hll hfl
    rw [show 3 - i = (3 - (i + 1)) + 1 by omega] at hst
    unfold stepL at hst
    obtain ⟨fN, fdN, us1, FN, mN, kN2, bN2, uN⟩ := NM.ex
    cases uN
    obtain ⟨fA, fdA, us2, FA, mA, kA, bA, uA⟩ := AT.ex
    cases uA
    obtain ⟨fC, fdC, us3, FC, mC, kC, bC, uC⟩ := CM.ex
    cases uC
    show WSs _ _ _ [some (.ref rf), some (.str (wtx w)), some (.int 3), some (.ref ag), some (.ref p), some (.ref pl), some (.int (0 + (i : Nat)))] H'
    refine wss_of (pss_cons (ps_set (i := 5) hnd rfl (.inl rfl) (pe_call (E := E0) FN (hr.mono (by decide)) rfl mN kN2 bN2 .nil pass0 (pa_cons (pe_var (i := 4) rfl (.inl rfl)) (pa_cons (pe_var (i := 5) rfl (.inl rfl)) (pa_cons (pe_var (i := 0) rfl (.inl rfl)) pa_nil))))) pss_ws) ?_
    refine ⟨.ref p, rfl, .ref pl, rfl, .ref rf, rfl, p, pl, rf, known, last, few, rfl, hdk, hdl, (Kp.same (k := none) sm).sqT hrf, hfo, hfl, by omega, hbk', fun pn H5 hpn s5 hdn => ?_⟩
    have hppn : p ≠ pn := fun z => hdk.dom (by rw [z]; exact hpn)
    have sm5 : Same H H5 := fun a o z => s5 a o (sm a o z)
    have hdk5 := hdk.same s5
    have hg5 := hg.tt (Kp.same (k := none) s5).tt
    generalize hnx : nextM known last few = nx at nx1 nx2 hdn hst
    have hnew : NewOf known nx := by
      rw [← hnx]
      exact nextM_new known last few
    clear hdk hdl hg sm s5 hpn
    show WSs _ _ _ [some (.ref rf), some (.str (wtx w)), some (.int 3), some (.ref ag), some (.ref p), some (.ref pn), some (.int (0 + (i : Nat)))] H5
    refine wss_of (pss_cons (ps_if (pt_cmpR (op_inN hu) (pe_var (i := 3) rfl (.inl rfl)) (pe_var (i := 5) rfl (.inl rfl)) rfl) (pss_one (ps_ret (pe_tup (pa_cons pe_str (pa_cons (pe_ixN hu (pe_var (i := 5) rfl (.inl rfl)) (pe_var (i := 3) rfl (.inl rfl)) (fun _ _ => rfl)) (pa_cons (pe_call (E := E0) FA (hr.mono (by decide)) rfl mA kA bA .nil pass0 (pa_cons (pe_var (i := 4) rfl (.inl rfl)) pa_nil)) pa_nil)))))) pss_nil) pss_ws) ?_
    refine ⟨.ref ag, rfl, .ref pn, rfl, ag, pn, mapOf [w], nx, rfl, rfl, hg5, hdn, _, rfl, ?_⟩
    cases hget : getK nx (mapOf [w]) with
    | some row =>
      rw [hget] at hst
      have hst' : (PyData.tuple [.str "least", dRow row, toldD known]) = stepL few (mapOf [w]) 3 bk0 bk0 := hst
      refine iteT ⟨.ref pn, rfl, .ref ag, rfl, ag, pn, mapOf [w], nx, row, rfl, rfl, hg5, hdn, hget, fun ra hra => ?_⟩
      refine ⟨.ref p, rfl, p, known, rfl, hdk5, fun v H6 s6 rv => ⟨by show 3 ≤ sizeLine; decide, fun q hq => ?_⟩⟩
      refine hQ (.ref q) _ (fun a o z => same_new hq a o (s6 a o (sm5 a o z))) ?_
      rw [← hst']
      have tt : TupK K H6 (upd H6 q (.tup [.str "least", .ref ra, v])) := (Kp.new (k := none) hq).tt
      refine .tup (SqT.of upd_same) (.cons (.str _) (.cons (row_rp (tt.1 _ _ ((Kp.same (k := none) s6).sqT hra))) (.cons ?_ .nil)))
      exact Rp.mono (av := fun _ => True) tt (fun _ _ _ z => absurd trivial z) _ _ (flat_any 4 _ _ (flat_told known) rv)
    | none =>
      rw [hget] at hst
      refine iteF ?_
      have hkn' : (known.map (·.1) ++ nx.map (·.1)).Nodup := keys_apart hdk5.nd hdn.nd hnew
      refine wss_of (pss_cons (ps_expr (pe_bmD PySem.F.slot_dict_update PySem.F.type_dict_update (mt_updN hu) (pe_var (i := 4) rfl (.inl rfl)) (pa_cons (pe_var (i := 5) rfl (.inl rfl)) pa_nil))) pss_ws) ?_
      refine ⟨.ref p, rfl, ⟨p, known, rfl, hdk5⟩, .ref pn, rfl, p, pn, known, nx, rfl, rfl, hdk5, hdn, hppn, hkn, hkn', by omega, fun u hdu hφ => ?_⟩
      have sm6 : Same H (upd H5 p u) := fun a o z => by
        rw [upd_ne (ne_of_none z hHp)]
        exact sm5 a o z
      obtain ⟨op, xp, hpO⟩ := hdk5
      have tt : TupK K H5 (upd H5 p u) := tt_updX hpO.at_
      have hdn6 : DicAt P wd K (upd H5 p u) pn nx := hdn.other hpO.at_ (fun z => hppn z.symm)
      have hg6 := hg5.tt tt
      generalize upd H5 p u = H6 at hdu sm6 hdn6 hg6 ⊢
      refine wss_of (pss_one (ps_expr (pe_call (E := E0) FC (hr.mono (by decide)) rfl mC kC bC .nil pass0 (pa_cons (pe_var (i := 4) rfl (.inl rfl)) pa_nil)))) ?_
      refine ⟨.ref p, rfl, p, known ++ nx, rfl, hdu, ?_⟩
      refine ⟨sm6, hg6, pn, known ++ nx, nx, _, rfl, hppn, hdu, hdn6, nx1, fun z => hkn (List.append_eq_nil_iff.mp z).1, ?_, ?_, hst⟩
      · rw [Nat.pow_succ]
        omega
      · rw [List.length_append]
        omega
  · rintro σ' H' ⟨sm, hg, pl, known, last, s6, rfl, hpl, hdk, hdl, hbk, hkn, hll, hkl, hst⟩
    have hst' : (PyData.tuple [.str "none", toldD known]) = stepL few (mapOf [w]) 3 bk0 bk0 := hst
    obtain ⟨fA, fdA, us2, FA, mA, kA, bA, uA⟩ := AT.ex
    cases uA
    refine wss_of (pss_one (ps_ret (pe_tup (pa_cons pe_str (pa_cons (pe_call (E := E0) FA (hr.mono (by decide)) rfl mA kA bA .nil pass0 (pa_cons (pe_var (i := 4) rfl (.inl rfl)) pa_nil)) pa_nil))))) ?_
    refine ⟨.ref p, rfl, p, known, rfl, hdk, fun v H6 s6 rv => ⟨by show 2 ≤ sizeLine; decide, fun q hq => ?_⟩⟩
    refine hQ (.ref q) _ (fun a o z => same_new hq a o (s6 a o (sm a o z))) ?_
    rw [← hst']
    have tt : TupK K H6 (upd H6 q (.tup [.str "none", v])) := (Kp.new (k := none) hq).tt
    refine .tup (SqT.of upd_same) (.cons (.str _) (.cons ?_ .nil))
    exact Rp.mono (av := fun _ => True) tt (fun _ _ _ z => absurd trivial z) _ _ (flat_any 4 _ _ (flat_told known) rv)
end
end Tk
end
section
namespace Tk
open PySem PySem.Spec PyProof.Rows L2
theorem empty_sq {K : PySem.W.Frag} {a : Addr} (h : emptyT K a = true) (H : Hp) : SqT K H a [] := by
  unfold emptyT at h
  split at h
  · rename_i c dd its n sl e
    have h1 : c = "tuple" := by
      simp only [Bool.and_eq_true, decide_eq_true_iff] at h
      exact h.1
    have h2 : its = #[] := by
      simp only [Bool.and_eq_true, decide_eq_true_iff, Array.isEmpty_iff] at h
      exact h.2
    subst h1 h2
    exact .inr ⟨_, #[], n, e, rfl, rfl, by decide, .nil⟩
  · cases h
theorem law_facts {P : Program} {w : World} {K : PySem.W.Frag} {h : Heap} {mg : Str → Option Value} {f : Addr} (KX : K.In h) (G : h.Ns mainGlobals mg) (hfa : mg ("law" : Str) = some (.ref f)) (cx : He.SaysX fa fn [] [] exq w h K) :
    ∃ fd : FuncData, (∀ (s : Shared) (v : Value), BindsTo s fd ⟨[v], []⟩ [("_law_script", v)]) ∧ ∀ base : Heap, K.In base → base.Ns mainGlobals mg → FnOk P w K mg base CX0 12 f fd plaw (spLaw K) := by
  have c : He.SaysD fa fn K := cx.t.d
  have ex : exq K = true := cx.more
  unfold exq at ex
  simp only [Bool.and_eq_true, decide_eq_true_iff] at ex
  obtain ⟨x1, x2, x3, x4⟩ := ex
  obtain ⟨fd, FL⟩ := c.def_ 54 (d := dlaw) rfl
  have e := hfa.symm.trans (He.glo_ok KX G (c.fact 54 (f := .glo "law") rfl))
  cases e
  have b := FunD.bindsA (ps := ["_law_script"]) FL fun _ _ _ _ _ _ us hl => match us, hl with | [_], _ => rfl
  refine ⟨fd, fun s v => b s [v] rfl, fun base _ _ => ?_⟩
  have B : Bt mg := ⟨He.free_ok KX G (c.fact 60 (f := .free "len") rfl), He.free_ok KX G (c.fact 61 (f := .free "tuple") rfl), He.free_ok KX G (c.fact 62 (f := .free "all") rfl), He.free_ok KX G (c.fact 63 (f := .free "isinstance") rfl), He.free_ok KX G (c.fact 64 (f := .free "str") rfl), He.free_ok KX G (c.fact 65 (f := .free "int") rfl), He.free_ok KX G (c.fact 66 (f := .free "bool") rfl), He.free_ok KX G (c.fact 67 (f := .free "range") rfl), He.free_ok KX G (c.fact 68 (f := .free "max") rfl), He.free_ok KX G (c.fact 69 (f := .free "sum") rfl), He.free_ok KX G (c.fact 70 (f := .free "list") rfl), He.free_ok KX G (c.fact 71 (f := .free "enumerate") rfl)⟩
  have C : Cn K mg := ⟨He.str_ok KX G (c.fact 72 (f := .str "LETTERS" "abcdefgh") rfl), He.str_ok KX G (c.fact 73 (f := .str "SMALL" "abcdefghijklmnopqrstuvwxyz") rfl), He.int_ok KX G (c.fact 74 (f := .int "MOST_LEFT_shuffles" 12) rfl), He.int_ok KX G (c.fact 75 (f := .int "MOST_SIGNS" 8) rfl), He.int_ok KX G (c.fact 76 (f := .int "MOST_MAPS" 1200) rfl),
    ⟨_, He.glo_ok KX G (c.fact 55 (f := .glo "BASICS") rfl), fun H => He.tupB_ok x1 H⟩, ⟨_, _, He.glo_ok KX G (c.fact 56 (f := .glo "NOTHING") rfl), fun H => He.tupB_ok x2 H, fun H => empty_sq x3 H⟩⟩
  obtain ⟨y1, y2, y3, y4⟩ := He.exc_ok (c.fact 59 (f := .exc "NoTurn") rfl)
  have Y : Xc K mg (He.ga K "NoTurn") := ⟨He.glo_ok KX G (c.fact 57 (f := .glo "NoTurn") rfl), y1, y2, y3, y4, x4⟩
  have gS := He.glo_ok KX G (c.fact 58 (f := .glo "NoStep") rfl)
  obtain ⟨fd_is_shuffle, F_is_shuffle⟩ := c.def_ 0 (d := dis_shuffle) rfl
  have g_is_shuffle := He.glo_ok KX G (c.fact 0 (f := .glo "is_shuffle") rfl)
  have b_is_shuffle : Binds K fd_is_shuffle pis_shuffle [] := FunD.bindsN F_is_shuffle fun _ _ _ _ _ _ us hl => match us, hl with | [_], _ => rfl
  have c_is_shuffle := FunD.call F_is_shuffle g_is_shuffle [] b_is_shuffle .nil (ok_is_shuffle (P := P) (wd := w) (base := base) B C F_is_shuffle)
  obtain ⟨fd_taken_left, F_taken_left⟩ := c.def_ 1 (d := dtaken_left) rfl
  have g_taken_left := He.glo_ok KX G (c.fact 1 (f := .glo "taken_left") rfl)
  have b_taken_left : Binds K fd_taken_left ptaken_left [] := FunD.bindsN F_taken_left fun _ _ _ _ _ _ us hl => match us, hl with | [_], _ => rfl
  have c_taken_left := FunD.call F_taken_left g_taken_left [] b_taken_left .nil (ok_taken_left (P := P) (wd := w) (base := base) B F_taken_left)
  obtain ⟨fd_least_map, F_least_map⟩ := c.def_ 2 (d := dleast_map) rfl
  have g_least_map := He.glo_ok KX G (c.fact 2 (f := .glo "least_map") rfl)
  have b_least_map : Binds K fd_least_map pleast_map [] := FunD.bindsN F_least_map fun _ _ _ _ _ _ us hl => match us, hl with | [_, _], _ => rfl
  have c_least_map := FunD.call F_least_map g_least_map [] b_least_map .nil (ok_least_map (P := P) (w := w) (base := base) B F_least_map)
  obtain ⟨fd_map_with, F_map_with⟩ := c.def_ 3 (d := dmap_with) rfl
  have g_map_with := He.glo_ok KX G (c.fact 3 (f := .glo "map_with") rfl)
  have b_map_with : Binds K fd_map_with pmap_with [] := FunD.bindsN F_map_with fun _ _ _ _ _ _ us hl => match us, hl with | [_, _, _], _ => rfl
  have c_map_with := FunD.call F_map_with g_map_with [] b_map_with .nil (ok_map_with (P := P) (wd := w) (base := base) B c_taken_left F_map_with)
  obtain ⟨fd_whole_map, F_whole_map⟩ := c.def_ 4 (d := dwhole_map) rfl
  have g_whole_map := He.glo_ok KX G (c.fact 4 (f := .glo "whole_map") rfl)
  have b_whole_map : Binds K fd_whole_map pwhole_map [] := FunD.bindsN F_whole_map fun _ _ _ _ _ _ us hl => match us, hl with | [_], _ => rfl
  have c_whole_map := FunD.call F_whole_map g_whole_map [] b_whole_map .nil (ok_whole_map (P := P) (wd := w) (base := base) B c_is_shuffle c_map_with F_whole_map)
  obtain ⟨fd_map_of, F_map_of⟩ := c.def_ 5 (d := dmap_of) rfl
  have g_map_of := He.glo_ok KX G (c.fact 5 (f := .glo "map_of") rfl)
  have b_map_of : Binds K fd_map_of pmap_of [] := FunD.bindsN F_map_of fun _ _ _ _ _ _ us hl => match us, hl with | [_], _ => rfl
  have c_map_of := FunD.call F_map_of g_map_of [] b_map_of .nil (ok_map_of (P := P) (wd := w) (base := base) c_whole_map c_least_map F_map_of)
  obtain ⟨fd_need_of, F_need_of⟩ := c.def_ 6 (d := dneed_of) rfl
  have g_need_of := He.glo_ok KX G (c.fact 6 (f := .glo "need_of") rfl)
  have b_need_of : Binds K fd_need_of pneed_of [] := FunD.bindsN F_need_of fun _ _ _ _ _ _ us hl => match us, hl with | [_], _ => rfl
  have c_need_of := FunD.call F_need_of g_need_of [] b_need_of .nil (ok_need_of (P := P) (wd := w) (base := base) c_whole_map F_need_of)
  obtain ⟨fd_parting, F_parting⟩ := c.def_ 7 (d := dparting) rfl
  have g_parting := He.glo_ok KX G (c.fact 7 (f := .glo "parting") rfl)
  have b_parting : Binds K fd_parting pparting [] := FunD.bindsN F_parting fun _ _ _ _ _ _ us hl => match us, hl with | [_, _], _ => rfl
  have c_parting := FunD.call F_parting g_parting [] b_parting .nil (ok_parting (P := P) (wd := w) (base := base) B c_need_of c_map_of F_parting)
  obtain ⟨fd_is_name, F_is_name⟩ := c.def_ 8 (d := dis_name) rfl
  have g_is_name := He.glo_ok KX G (c.fact 8 (f := .glo "is_name") rfl)
  have b_is_name : Binds K fd_is_name pis_name [] := FunD.bindsN F_is_name fun _ _ _ _ _ _ us hl => match us, hl with | [_], _ => rfl
  have c_is_name := FunD.call F_is_name g_is_name [] b_is_name .nil (ok_is_name (P := P) (wd := w) (base := base) B C F_is_name)
  obtain ⟨fd_is_word, F_is_word⟩ := c.def_ 9 (d := dis_word) rfl
  have g_is_word := He.glo_ok KX G (c.fact 9 (f := .glo "is_word") rfl)
  have b_is_word : Binds K fd_is_word pis_word [] := FunD.bindsN F_is_word fun _ _ _ _ _ _ us hl => match us, hl with | [_], _ => rfl
  have c_is_word := FunD.call F_is_word g_is_word [] b_is_word .nil (ok_is_word (P := P) (wd := w) (base := base) B C c_is_shuffle c_is_name F_is_word)
  obtain ⟨fd_is_row, F_is_row⟩ := c.def_ 10 (d := dis_row) rfl
  have g_is_row := He.glo_ok KX G (c.fact 10 (f := .glo "is_row") rfl)
  have b_is_row : Binds K fd_is_row pis_row [] := FunD.bindsN F_is_row fun _ _ _ _ _ _ us hl => match us, hl with | [_], _ => rfl
  have c_is_row := FunD.call F_is_row g_is_row [] b_is_row .nil (ok_is_row (P := P) (wd := w) (base := base) B c_is_word F_is_row)
  obtain ⟨fd_said, F_said⟩ := c.def_ 11 (d := dsaid) rfl
  have g_said := He.glo_ok KX G (c.fact 11 (f := .glo "said") rfl)
  have b_said : Binds K fd_said psaid [] := FunD.bindsN F_said fun _ _ _ _ _ _ us hl => match us, hl with | [_], _ => rfl
  have c_said := FunD.call F_said g_said [] b_said .nil (ok_said (P := P) (wd := w) (base := base)  F_said)
  obtain ⟨fd_are_shuffles_rules, F_are_shuffles_rules⟩ := c.def_ 14 (d := dare_shuffles_rules) rfl
  have g_are_shuffles_rules := He.glo_ok KX G (c.fact 14 (f := .glo "are_shuffles_rules") rfl)
  have b_are_shuffles_rules : Binds K fd_are_shuffles_rules pare_shuffles_rules [] := FunD.bindsN F_are_shuffles_rules fun _ _ _ _ _ _ us hl => match us, hl with | [_], _ => rfl
  have c_are_shuffles_rules := FunD.call F_are_shuffles_rules g_are_shuffles_rules [] b_are_shuffles_rules .nil (ok_are_r (P := P) (wd := w) (base := base) B c_is_shuffle F_are_shuffles_rules)
  obtain ⟨fd_are_shuffles_alike, F_are_shuffles_alike⟩ := c.def_ 26 (d := dare_shuffles_alike) rfl
  have g_are_shuffles_alike := He.glo_ok KX G (c.fact 26 (f := .glo "are_shuffles_alike") rfl)
  have b_are_shuffles_alike : Binds K fd_are_shuffles_alike pare_shuffles_alike [] := FunD.bindsN F_are_shuffles_alike fun _ _ _ _ _ _ us hl => match us, hl with | [_], _ => rfl
  have c_are_shuffles_alike := FunD.call F_are_shuffles_alike g_are_shuffles_alike [] b_are_shuffles_alike .nil (ok_are_a (P := P) (wd := w) (base := base) B c_is_shuffle F_are_shuffles_alike)
  obtain ⟨fd_parted_stack, F_parted_stack⟩ := c.def_ 12 (d := dparted_stack) rfl
  have g_parted_stack := He.glo_ok KX G (c.fact 12 (f := .glo "parted_stack") rfl)
  have b_parted_stack : Binds K fd_parted_stack pparted_stack [] := FunD.bindsN F_parted_stack fun _ _ _ _ _ _ us hl => match us, hl with | [_, _], _ => rfl
  have c_parted_stack := FunD.call F_parted_stack g_parted_stack [] b_parted_stack .nil (ok_parted_stack (P := P) (wd := w) (base := base) B F_parted_stack)
  obtain ⟨fd_step, F_step⟩ := c.def_ 13 (d := dstep) rfl
  have g_step := He.glo_ok KX G (c.fact 13 (f := .glo "step") rfl)
  obtain ⟨u_step, v_step, b_step⟩ := FunD.binds1 (ps := pstep) F_step 2 1 (List.cons_ne_nil _ _) rfl fun _ _ _ _ _ _ _ us its hl hi => match us, its, hl, hi with | [_, _], [_], _, _ => ⟨_, rfl, rfl⟩
  cases v_step
  have c_step : CalD P w K mg base CX0 2 "step" pstep [] (spD K G_step) := ⟨⟨_, _, [], ok_step (P := P) (wd := w) (base := base) B c_is_shuffle c_taken_left c_parted_stack F_step, g_step, F_step.kp, b_step, .nil⟩⟩
  obtain ⟨fd_is_mapped, F_is_mapped⟩ := c.def_ 15 (d := dis_mapped) rfl
  have g_is_mapped := He.glo_ok KX G (c.fact 15 (f := .glo "is_mapped") rfl)
  have b_is_mapped : Binds K fd_is_mapped pis_mapped [] := FunD.bindsN F_is_mapped fun _ _ _ _ _ _ us hl => match us, hl with | [_, _, _], _ => rfl
  have c_is_mapped := FunD.call F_is_mapped g_is_mapped [] b_is_mapped .nil (ok_is_mapped (P := P) (wd := w) (base := base) c_are_shuffles_rules c_map_of F_is_mapped)
  obtain ⟨fd_leads, F_leads⟩ := c.def_ 16 (d := dleads) rfl
  have g_leads := He.glo_ok KX G (c.fact 16 (f := .glo "leads") rfl)
  have b_leads : Binds K fd_leads pleads [] := FunD.bindsN F_leads fun _ _ _ _ _ _ us hl => match us, hl with | [_, _, _, _], _ => rfl
  have c_leads := FunD.call F_leads g_leads [] b_leads .nil (ok_leads (P := P) (wd := w) (base := base) c_is_mapped F_leads)
  obtain ⟨fd_turns_to, F_turns_to⟩ := c.def_ 17 (d := dturns_to) rfl
  have g_turns_to := He.glo_ok KX G (c.fact 17 (f := .glo "turns_to") rfl)
  obtain ⟨u_turns_to, v_turns_to, b_turns_to⟩ := FunD.binds1 (ps := pturns_to) F_turns_to 4 1 (List.cons_ne_nil _ _) rfl fun _ _ _ _ _ _ _ us its hl hi => match us, its, hl, hi with | [_, _, _, _], [_], _, _ => ⟨_, rfl, rfl⟩
  cases v_turns_to
  have c_turns_to : CalD P w K mg base CX0 7 "turns_to" pturns_to [] (spD K G_leads) := ⟨⟨_, _, [], ok_turns_to (P := P) (wd := w) (base := base) c_said c_leads F_turns_to, g_turns_to, F_turns_to.kp, b_turns_to, .nil⟩⟩
  obtain ⟨fd_is_count, F_is_count⟩ := c.def_ 18 (d := dis_count) rfl
  have g_is_count := He.glo_ok KX G (c.fact 18 (f := .glo "is_count") rfl)
  have b_is_count : Binds K fd_is_count pis_count [] := FunD.bindsN F_is_count fun _ _ _ _ _ _ us hl => match us, hl with | [_], _ => rfl
  have c_is_count := FunD.call F_is_count g_is_count [] b_is_count .nil (ok_is_count (P := P) (wd := w) (base := base) B F_is_count)
  obtain ⟨fd_is_turn, F_is_turn⟩ := c.def_ 19 (d := dis_turn) rfl
  have g_is_turn := He.glo_ok KX G (c.fact 19 (f := .glo "is_turn") rfl)
  have b_is_turn : Binds K fd_is_turn pis_turn [] := FunD.bindsN F_is_turn fun _ _ _ _ _ _ us hl => match us, hl with | [_], _ => rfl
  have c_is_turn := FunD.call F_is_turn g_is_turn [] b_is_turn .nil (ok_is_turn (P := P) (wd := w) (base := base) B c_is_count c_is_row F_is_turn)
  obtain ⟨fd_entered, F_entered⟩ := c.def_ 20 (d := dentered) rfl
  have g_entered := He.glo_ok KX G (c.fact 20 (f := .glo "entered") rfl)
  have b_entered : Binds K fd_entered pentered [] := FunD.bindsN F_entered fun _ _ _ _ _ _ us hl => match us, hl with | [_, _], _ => rfl
  have c_entered := FunD.call F_entered g_entered [] b_entered .nil (ok_entered (P := P) (wd := w) (base := base)  F_entered)
  obtain ⟨fd_stretch_at, F_stretch_at⟩ := c.def_ 21 (d := dstretch_at) rfl
  have g_stretch_at := He.glo_ok KX G (c.fact 21 (f := .glo "stretch_at") rfl)
  have b_stretch_at : Binds K fd_stretch_at pstretch_at [] := FunD.bindsN F_stretch_at fun _ _ _ _ _ _ us hl => match us, hl with | [_, _, _], _ => rfl
  have c_stretch_at := FunD.call F_stretch_at g_stretch_at [] b_stretch_at .nil (ok_stretch_at (P := P) (wd := w) (base := base) B c_entered F_stretch_at)
  obtain ⟨fd_put_at, F_put_at⟩ := c.def_ 22 (d := dput_at) rfl
  have g_put_at := He.glo_ok KX G (c.fact 22 (f := .glo "put_at") rfl)
  have b_put_at : Binds K fd_put_at pput_at [] := FunD.bindsN F_put_at fun _ _ _ _ _ _ us hl => match us, hl with | [_, _, _, _], _ => rfl
  have c_put_at := FunD.call F_put_at g_put_at [] b_put_at .nil (ok_put_at (P := P) (wd := w) (base := base) B F_put_at)
  obtain ⟨fd_turned, F_turned⟩ := c.def_ 23 (d := dturned) rfl
  have g_turned := He.glo_ok KX G (c.fact 23 (f := .glo "turned") rfl)
  obtain ⟨u_turned, v_turned, b_turned⟩ := FunD.binds1 (ps := pturned) F_turned 3 1 (List.cons_ne_nil _ _) rfl fun _ _ _ _ _ _ _ us its hl hi => match us, its, hl, hi with | [_, _, _], [_], _, _ => ⟨_, rfl, rfl⟩
  cases v_turned
  have c_turned : CalD P w K mg base (L2.CX P w) 8 "turned" pturned [] (spX K (He.ga K "NoTurn") G_turned R_turned) := ⟨⟨_, _, [], ok_turned (P := P) (wd := w) (base := base) Y c_is_turn c_turns_to c_stretch_at c_put_at F_turned, g_turned, F_turned.kp, b_turned, .nil⟩⟩
  obtain ⟨fd_paper_holds, F_paper_holds⟩ := c.def_ 24 (d := dpaper_holds) rfl
  have g_paper_holds := He.glo_ok KX G (c.fact 24 (f := .glo "paper_holds") rfl)
  obtain ⟨u_paper_holds, v_paper_holds, b_paper_holds⟩ := FunD.binds1 (ps := ppaper_holds) F_paper_holds 3 0 (List.cons_ne_nil _ _) rfl fun _ _ _ _ _ _ _ us its hl hi => match us, its, hl, hi with | [_, _, _], [_], _, _ => ⟨_, rfl, rfl⟩
  have c_paper_holds := FunD.call F_paper_holds g_paper_holds u_paper_holds b_paper_holds v_paper_holds (ok_paper_holds (P := P) (wd := w) (base := base) B Y c_turned F_paper_holds)
  obtain ⟨fd_turned_back, F_turned_back⟩ := c.def_ 25 (d := dturned_back) rfl
  have g_turned_back := He.glo_ok KX G (c.fact 25 (f := .glo "turned_back") rfl)
  obtain ⟨u_turned_back, v_turned_back, b_turned_back⟩ := FunD.binds1 (ps := pturned_back) F_turned_back 2 0 (List.cons_ne_nil _ _) rfl fun _ _ _ _ _ _ _ us its hl hi => match us, its, hl, hi with | [_, _], [_], _, _ => ⟨_, rfl, rfl⟩
  have c_turned_back := FunD.call F_turned_back g_turned_back u_turned_back b_turned_back v_turned_back (ok_turned_back (P := P) (wd := w) (base := base) B c_turned c_stretch_at F_turned_back)
  obtain ⟨fd_of_shuffles, F_of_shuffles⟩ := c.def_ 27 (d := dof_shuffles) rfl
  have g_of_shuffles := He.glo_ok KX G (c.fact 27 (f := .glo "of_shuffles") rfl)
  have b_of_shuffles : Binds K fd_of_shuffles pof_shuffles [] := FunD.bindsN F_of_shuffles fun _ _ _ _ _ _ us hl => match us, hl with | [_, _], _ => rfl
  have c_of_shuffles := FunD.call F_of_shuffles g_of_shuffles [] b_of_shuffles .nil (ok_of_shuffles (P := P) (wd := w) (base := base) B c_parting F_of_shuffles)
  obtain ⟨fd_alike, F_alike⟩ := c.def_ 28 (d := dalike) rfl
  have g_alike := He.glo_ok KX G (c.fact 28 (f := .glo "alike") rfl)
  obtain ⟨u_alike, v_alike, b_alike⟩ := FunD.binds1 (ps := palike) F_alike 2 0 (List.cons_ne_nil _ _) rfl fun _ _ _ _ _ _ _ us its hl hi => match us, its, hl, hi with | [_, _], [_], _, _ => ⟨_, rfl, rfl⟩
  have c_alike := FunD.call F_alike g_alike u_alike b_alike v_alike (ok_alike (P := P) (wd := w) (base := base) c_said c_are_shuffles_alike c_of_shuffles F_alike)
  obtain ⟨fd_next_state, F_next_state⟩ := c.def_ 34 (d := dnext_state) rfl
  have g_next_state := He.glo_ok KX G (c.fact 34 (f := .glo "next_state") rfl)
  have b_next_state : Binds K fd_next_state pnext_state [] := FunD.bindsN F_next_state fun _ _ _ _ _ _ us hl => match us, hl with | [_, _], _ => rfl
  have c_next_state := FunD.call F_next_state g_next_state [] b_next_state .nil (ok_next_state (P := P) (wd := w) (base := base) gS c_step F_next_state)
  obtain ⟨fd_run, F_run⟩ := c.def_ 35 (d := drun) rfl
  have g_run := He.glo_ok KX G (c.fact 35 (f := .glo "run") rfl)
  obtain ⟨u_run, v_run, b_run⟩ := FunD.binds1 (ps := prun) F_run 3 0 (List.cons_ne_nil _ _) rfl fun _ _ _ _ _ _ _ us its hl hi => match us, its, hl, hi with | [_, _, _], [_], _, _ => ⟨_, rfl, rfl⟩
  have c_run := FunD.call F_run g_run u_run b_run v_run (ok_run (P := P) (wd := w) (base := base) c_next_state F_run)
  obtain ⟨fd_map_behind, F_map_behind⟩ := c.def_ 29 (d := dmap_behind) rfl
  have g_map_behind := He.glo_ok KX G (c.fact 29 (f := .glo "map_behind") rfl)
  have b_map_behind : Binds K fd_map_behind pmap_behind [] := FunD.bindsN F_map_behind fun _ _ _ _ _ _ us hl => match us, hl with | [_, _], _ => rfl
  have c_map_behind := FunD.call F_map_behind g_map_behind [] b_map_behind .nil (ok_map_behind (P := P) (wd := w) (base := base) c_map_with c_least_map F_map_behind)
  obtain ⟨fd_next_maps, F_next_maps⟩ := c.def_ 30 (d := dnext_maps) rfl
  have g_next_maps := He.glo_ok KX G (c.fact 30 (f := .glo "next_maps") rfl)
  have b_next_maps : Binds K fd_next_maps pnext_maps [] := FunD.bindsN F_next_maps fun _ _ _ _ _ _ us hl => match us, hl with | [_, _, _], _ => rfl
  have c_next_maps := FunD.call F_next_maps g_next_maps [] b_next_maps .nil (ok_next_maps (P := P) (wd := w) (base := base) c_map_behind F_next_maps)
  obtain ⟨fd_check_many, F_check_many⟩ := c.def_ 31 (d := dcheck_many) rfl
  have g_check_many := He.glo_ok KX G (c.fact 31 (f := .glo "check_many") rfl)
  have b_check_many : Binds K fd_check_many pcheck_many [] := FunD.bindsN F_check_many fun _ _ _ _ _ _ us hl => match us, hl with | [_], _ => rfl
  have c_check_many := FunD.call F_check_many g_check_many [] b_check_many .nil (ok_check_many (P := P) (wd := w) (base := base) B C F_check_many)
  obtain ⟨fd_as_told, F_as_told⟩ := c.def_ 32 (d := das_told) rfl
  have g_as_told := He.glo_ok KX G (c.fact 32 (f := .glo "as_told") rfl)
  have b_as_told : Binds K fd_as_told pas_told [] := FunD.bindsN F_as_told fun _ _ _ _ _ _ us hl => match us, hl with | [_], _ => rfl
  have c_as_told := FunD.call F_as_told g_as_told [] b_as_told .nil (ok_as_told (P := P) (wd := w) (base := base) B F_as_told)
  obtain ⟨fd_least_row, F_least_row⟩ := c.def_ 33 (d := dleast_row) rfl
  have g_least_row := He.glo_ok KX G (c.fact 33 (f := .glo "least_row") rfl)
  have b_least_row : Binds K fd_least_row pleast_row [] := FunD.bindsN F_least_row fun _ _ _ _ _ _ us hl => match us, hl with | [_, _, _], _ => rfl
  have c_least_row := FunD.call F_least_row g_least_row [] b_least_row .nil (ok_least_row (P := P) (wd := w) (base := base) B C c_map_of c_next_maps c_check_many c_as_told F_least_row)
  obtain ⟨fd_L_mixed, F_L_mixed⟩ := c.def_ 36 (d := dL_mixed) rfl
  have g_L_mixed := He.glo_ok KX G (c.fact 36 (f := .glo "_law_mixed") rfl)
  have b_L_mixed : Binds K fd_L_mixed pL_mixed [] := FunD.bindsN F_L_mixed fun _ _ _ _ _ _ us hl => match us, hl with | [_, _], _ => rfl
  have c_L_mixed := FunD.call F_L_mixed g_L_mixed [] b_L_mixed .nil (ok_L_mixed (P := P) (wd := w) (base := base)  F_L_mixed)
  obtain ⟨fd_L_deck, F_L_deck⟩ := c.def_ 37 (d := dL_deck) rfl
  have g_L_deck := He.glo_ok KX G (c.fact 37 (f := .glo "_law_deck") rfl)
  have b_L_deck : Binds K fd_L_deck pL_deck [] := FunD.bindsN F_L_deck fun _ _ _ _ _ _ us hl => match us, hl with | [_], _ => rfl
  have c_L_deck := FunD.call F_L_deck g_L_deck [] b_L_deck .nil (ok_L_deck (P := P) (wd := w) (base := base) B F_L_deck)
  obtain ⟨fd_L_draw, F_L_draw⟩ := c.def_ 38 (d := dL_draw) rfl
  have g_L_draw := He.glo_ok KX G (c.fact 38 (f := .glo "_law_draw") rfl)
  have b_L_draw : Binds K fd_L_draw pL_draw [] := FunD.bindsN F_L_draw fun _ _ _ _ _ _ us hl => match us, hl with | [_, _], _ => rfl
  have c_L_draw := FunD.call F_L_draw g_L_draw [] b_L_draw .nil (ok_L_draw (P := P) (wd := w) (base := base) B c_L_mixed F_L_draw)
  obtain ⟨fd_L_shuffle, F_L_shuffle⟩ := c.def_ 39 (d := dL_shuffle) rfl
  have g_L_shuffle := He.glo_ok KX G (c.fact 39 (f := .glo "_law_shuffle") rfl)
  have b_L_shuffle : Binds K fd_L_shuffle pL_shuffle [] := FunD.bindsN F_L_shuffle fun _ _ _ _ _ _ us hl => match us, hl with | [_, _, _], _ => rfl
  have c_L_shuffle := FunD.call F_L_shuffle g_L_shuffle [] b_L_shuffle .nil (ok_L_shuffle (P := P) (wd := w) (base := base) B c_L_draw F_L_shuffle)
  obtain ⟨fd_L_word, F_L_word⟩ := c.def_ 40 (d := dL_word) rfl
  have g_L_word := He.glo_ok KX G (c.fact 40 (f := .glo "_law_word") rfl)
  have b_L_word : Binds K fd_L_word pL_word [] := FunD.bindsN F_L_word fun _ _ _ _ _ _ us hl => match us, hl with | [_], _ => rfl
  have c_L_word := FunD.call F_L_word g_L_word [] b_L_word .nil (ok_L_word (P := P) (wd := w) (base := base) B c_L_draw c_L_shuffle F_L_word)
  obtain ⟨fd_L_row, F_L_row⟩ := c.def_ 41 (d := dL_row) rfl
  have g_L_row := He.glo_ok KX G (c.fact 41 (f := .glo "_law_row") rfl)
  have b_L_row : Binds K fd_L_row pL_row [] := FunD.bindsN F_L_row fun _ _ _ _ _ _ us hl => match us, hl with | [_, _], _ => rfl
  have c_L_row := FunD.call F_L_row g_L_row [] b_L_row .nil (ok_L_row (P := P) (wd := w) (base := base) B c_L_draw c_L_word F_L_row)
  obtain ⟨fd_L_read, F_L_read⟩ := c.def_ 42 (d := dL_read) rfl
  have g_L_read := He.glo_ok KX G (c.fact 42 (f := .glo "_law_read") rfl)
  have b_L_read : Binds K fd_L_read pL_read [] := FunD.bindsN F_L_read fun _ _ _ _ _ _ us hl => match us, hl with | [_], _ => rfl
  have c_L_read := FunD.call F_L_read g_L_read [] b_L_read .nil (ok_L_read (P := P) (wd := w) (base := base) B F_L_read)
  obtain ⟨fd_L_whole, F_L_whole⟩ := c.def_ 43 (d := dL_whole) rfl
  have g_L_whole := He.glo_ok KX G (c.fact 43 (f := .glo "_law_whole") rfl)
  have b_L_whole : Binds K fd_L_whole pL_whole [] := FunD.bindsN F_L_whole fun _ _ _ _ _ _ us hl => match us, hl with | [_], _ => rfl
  have c_L_whole := FunD.call F_L_whole g_L_whole [] b_L_whole .nil (ok_L_whole (P := P) (wd := w) (base := base) B c_L_read F_L_whole)
  have c_L_wholeP := FunD.call F_L_whole g_L_whole [] b_L_whole .nil (whole_plain (ok_L_whole (P := P) (wd := w) (base := base) B c_L_read F_L_whole))
  obtain ⟨fd_L_least, F_L_least⟩ := c.def_ 44 (d := dL_least) rfl
  have g_L_least := He.glo_ok KX G (c.fact 44 (f := .glo "_law_least") rfl)
  have b_L_least : Binds K fd_L_least pL_least [] := FunD.bindsN F_L_least fun _ _ _ _ _ _ us hl => match us, hl with | [_, _], _ => rfl
  have c_L_least := FunD.call F_L_least g_L_least [] b_L_least .nil (ok_L_least (P := P) (wd := w) (base := base) B F_L_least)
  obtain ⟨fd_L_wider, F_L_wider⟩ := c.def_ 45 (d := dL_wider) rfl
  have g_L_wider := He.glo_ok KX G (c.fact 45 (f := .glo "_law_wider") rfl)
  have b_L_wider : Binds K fd_L_wider pL_wider [] := FunD.bindsN F_L_wider fun _ _ _ _ _ _ us hl => match us, hl with | [_], _ => rfl
  have c_L_wider := FunD.call F_L_wider g_L_wider [] b_L_wider .nil (ok_L_wider (P := P) (wd := w) (base := base) B F_L_wider)
  obtain ⟨fd_L_together, F_L_together⟩ := c.def_ 46 (d := dL_together) rfl
  have g_L_together := He.glo_ok KX G (c.fact 46 (f := .glo "_law_together") rfl)
  have b_L_together : Binds K fd_L_together pL_together [] := FunD.bindsN F_L_together fun _ _ _ _ _ _ us hl => match us, hl with | [_, _], _ => rfl
  have c_L_together := FunD.call F_L_together g_L_together [] b_L_together .nil (ok_L_together (P := P) (wd := w) (base := base) B c_L_wholeP F_L_together)
  obtain ⟨fd_L_other, F_L_other⟩ := c.def_ 47 (d := dL_other) rfl
  have g_L_other := He.glo_ok KX G (c.fact 47 (f := .glo "_law_other") rfl)
  have b_L_other : Binds K fd_L_other pL_other [] := FunD.bindsN F_L_other fun _ _ _ _ _ _ us hl => match us, hl with | [_, _], _ => rfl
  have c_L_other := FunD.call F_L_other g_L_other [] b_L_other .nil (ok_L_other (P := P) (wd := w) (base := base) B c_L_draw c_L_word c_L_row c_L_wider c_L_together F_L_other)
  obtain ⟨fd_L_map, F_L_map⟩ := c.def_ 48 (d := dL_map) rfl
  have g_L_map := He.glo_ok KX G (c.fact 48 (f := .glo "_law_map") rfl)
  have b_L_map : Binds K fd_L_map pL_map [] := FunD.bindsN F_L_map fun _ _ _ _ _ _ us hl => match us, hl with | [_], _ => rfl
  have c_L_map := FunD.call F_L_map g_L_map [] b_L_map .nil (ok_L_map (P := P) (wd := w) (base := base) c_L_whole c_L_least F_L_map)
  obtain ⟨fd_L_shrunk, F_L_shrunk⟩ := c.def_ 49 (d := dL_shrunk) rfl
  have g_L_shrunk := He.glo_ok KX G (c.fact 49 (f := .glo "_law_shrunk") rfl)
  have b_L_shrunk : Binds K fd_L_shrunk pL_shrunk [] := FunD.bindsN F_L_shrunk fun _ _ _ _ _ _ us hl => match us, hl with | [_], _ => rfl
  have c_L_shrunk := FunD.call F_L_shrunk g_L_shrunk [] b_L_shrunk .nil (ok_L_shrunk (P := P) (wd := w) (base := base) B c_L_together F_L_shrunk)
  obtain ⟨fd_L_made, F_L_made⟩ := c.def_ 50 (d := dL_made) rfl
  have g_L_made := He.glo_ok KX G (c.fact 50 (f := .glo "_law_made") rfl)
  have b_L_made : Binds K fd_L_made pL_made [] := FunD.bindsN F_L_made fun _ _ _ _ _ _ us hl => match us, hl with | [_, _], _ => rfl
  have c_L_made := FunD.call F_L_made g_L_made [] b_L_made .nil (ok_L_made (P := P) (wd := w) (base := base) B c_L_shrunk c_turned_back F_L_made)
  obtain ⟨fd_L_left, F_L_left⟩ := c.def_ 51 (d := dL_left) rfl
  have g_L_left := He.glo_ok KX G (c.fact 51 (f := .glo "_law_left") rfl)
  have b_L_left : Binds K fd_L_left pL_left [] := FunD.bindsN F_L_left fun _ _ _ _ _ _ us hl => match us, hl with | [_, _], _ => rfl
  have c_L_left := FunD.call F_L_left g_L_left [] b_L_left .nil (ok_L_left (P := P) (wd := w) (base := base) B c_L_read F_L_left)
  obtain ⟨fd_L_ends, F_L_ends⟩ := c.def_ 52 (d := dL_ends) rfl
  have g_L_ends := He.glo_ok KX G (c.fact 52 (f := .glo "_law_ends") rfl)
  have b_L_ends : Binds K fd_L_ends pL_ends [] := FunD.bindsN F_L_ends fun _ _ _ _ _ _ us hl => match us, hl with | [_, _], _ => rfl
  have c_L_ends := FunD.call F_L_ends g_L_ends [] b_L_ends .nil (ok_L_ends (P := P) (wd := w) (base := base) B c_run c_L_left F_L_ends)
  obtain ⟨fd_L_right, F_L_right⟩ := c.def_ 53 (d := dL_right) rfl
  have g_L_right := He.glo_ok KX G (c.fact 53 (f := .glo "_law_right") rfl)
  have b_L_right : Binds K fd_L_right pL_right [] := FunD.bindsN F_L_right fun _ _ _ _ _ _ us hl => match us, hl with | [_, _], _ => rfl
  have c_L_right := FunD.call F_L_right g_L_right [] b_L_right .nil (ok_L_right (P := P) (wd := w) (base := base) B c_alike c_L_map c_paper_holds c_turned_back c_L_made c_L_wholeP c_L_ends c_L_left F_L_right)
  exact ok_law B c_L_deck c_L_draw c_L_word c_L_row c_L_other c_L_right c_least_row c_alike FL
end Tk
end
section
open PySem PySem.W PySem.Calls PyProof.Rows
theorem PySem.Challenge.cw_takeleave_k84_whole_shuffles_alike_or_pa_holds : PySem.Challenge.rw_takeleave_k84_whole_shuffles_alike_or_pa.Holds := by
  w_on; o_law
  refine HandSHeadRun.head_any (r := OpenLaw.row PySem.Challenge.rw_takeleave_k84_whole_shuffles_alike_or_pa) (q := Tk.qv) (H := Tk.hk) (ob := Tk.ob) (M := 20000) (loose := Tk.loose) (d := HandSHeadRun.topDef (OpenLaw.row PySem.Challenge.rw_takeleave_k84_whole_shuffles_alike_or_pa).prog 146) (kwd := []) Tk.ob_eq
    (by kernel_rfl) (fun s => by kernel_rfl) Tk.run (by kernel_rfl) (by kernel_rfl) (by kernel_rfl) (by rfl) (by first | assumption | decide +kernel) (by decide +kernel) ⟨rfl, rfl, rfl, rfl, rfl, by decide +kernel⟩ ?hw ?hc
  case hw => w_witness2
  case hc =>
    refine L2.walk_ofE (l := PySem.Challenge.rw_takeleave_k84_whole_shuffles_alike_or_pa) (n := 63) (k := 12) (x := "_law_script") (CX := L2.CX0) rfl (by decide) (by kernel_rfl) ⟨rfl, by decide, by decide⟩ ?F (fun _ _ _ _ z => z)
    intro w mg fa h Y G hmg0
    obtain ⟨K, KX, c⟩ := Y
    have hmg : mg ("law" : PySem.Str) = some (.ref fa) := by
      have e : (HandSHeadRun.topDef (OpenLaw.row PySem.Challenge.rw_takeleave_k84_whole_shuffles_alike_or_pa).prog 146).name = ("law" : PySem.Str) := by kernel_rfl
      rw [← e]
      exact hmg0
    obtain ⟨fd, hb, hF⟩ := Tk.law_facts (P := (PySem.Challenge.rw_takeleave_k84_whole_shuffles_alike_or_pa).prog) (w := w) KX G hmg c
    exact ⟨K, fd, Tk.spLaw K, KX, hb, fun H a ns hl _ hS => ⟨a, ns, rfl, hS, hl, fun _ => rfl⟩, hF⟩
end
